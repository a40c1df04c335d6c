/- TariffBehind answers true for every input, as its tied card says: under the conditions of the card (Rows, Cards, Tie), no more. Part 6 of 7: by one AI agent and its programs; no person has read it. -/
import Derived.Test.YtnfnkllhjaemnaaDoorTariffBehindA
import Derived.Test.YtnfnkllhjaemnaaDoorTariffBehindB
import Derived.Test.YtnfnkllhjaemnaaDoorTariffBehindC
import Derived.Test.YtnfnkllhjaemnaaDoorTariffBehindD
import Derived.Test.YtnfnkllhjaemnaaDoorTariffBehindE
import Derived.Shelf.Strconv.Itoa0
import Derived.Shelf.Strconv.Itoa1
import Derived.Shelf.LaysM
import Derived.Shelf.Strconv.Itoa2
import Derived.Shelf.Strconv.Itoa3
import Derived.Test.YtnfnkllhjaemnaaDoorProg
set_option linter.unusedSimpArgs false
set_option linter.unusedVariables false
set_option linter.all false

namespace Go.Pv.Tryd
open Go.Proofs Go.Pv
theorem m_tariff_cuts_ok (mark1 : Int) (ts1 : (List (List Rule))) (r : (List Int)) (h : m_tariff_cuts mark1 ts1 = some r) : PureFn Tryd.prog G 81 [.d (.int .i64 mark1), .d (.imm 1 (lenc (slenc 2 Rule.pd) ts1))] (.d (.imm 1 (lenc (PD.int .i64) r))) := by
 unfold m_tariff_cuts at h
 refine pf Tryd.func81 Tryd.ntmps81 ?_
 refine sg fun K k => ?_
 refine oo ?_
 refine AOps.nil (k _ ?_)
 refine sg fun K k => ?_
 iterate 2 refine oo ?_
 refine AOps.nil (k _ ?_)
 refine jn (α := (List Int)) [] [] (fun i t => (5, .slc 1000 0 i.length) :: t) (fun i t => (1000, ⟨3, 1, dl (lenc (PD.int .i64) i)⟩) :: t) h ?_ ?_
 ·intro _ hj_2
  refine sg fun K k => ?_
  iterate 3 refine oo ?_
  refine AOps.nil (k _ ?_)
  refine AWp.block ?_
  obtain ⟨x_7, hl_4, h2_5⟩ := bind_some hj_2
  refine lp (S := (Int × (List Int))) [0, 11, 12] [] (fun i t => (5, .slc 1000 0 i.2.length) :: (13, .d (.int .i64 i.1)) :: t) (fun i t => (1000, ⟨3, 1, dl (lenc (PD.int .i64) i.2)⟩) :: t) hl_4 ?_ ?_; exact sb; clear hl_4
  rintro ⟨v1, L2⟩ _ hb_6; unfold m_tariff_cuts_l1 at hb_6; try dsimp only at hb_6
  try dsimp only
  refine sg fun K k => ?_
  refine oo ?_
  refine AOps.nil (k _ ?_)
  refine AWp.seq fun _ K_9 => ?_
  refine cd hb_6 (fun hb_6 => ?_) (fun hb_6 => ?_)
  ·refine AWp.skip ?_
   refine K_9 _ ?_
   refine jn (α := (List Int)) [0, 11, 12, 13] [] (fun i t => (5, .slc 1000 0 i.length) :: t) (fun i t => (1000, ⟨3, 1, dl (lenc (PD.int .i64) i)⟩) :: t) hb_6 ?_ ?_
   ·intro _ hj_12
    refine AWp.block ?_
    refine sg fun K k => ?_
    obtain ⟨e1, ⟨f_13, f_14, f_15, f_16⟩, hj_12⟩ := idx_bind hj_12
    refine oo ?_
    refine oo ?_ (by intro K k; simp (disch := omega) only [go_sem, f_15, ↓reduceIte]; exact k)
    refine oo ?_
    refine AOps.nil (k _ ?_)
    refine sg fun K k => ?_
    iterate 3 refine oo ?_
    refine AOps.nil (k _ ?_)
    refine AWp.block ?_
    obtain ⟨x_21, hl_18, h2_19⟩ := bind_some hj_12
    refine lp (S := (Int × (List Int))) [0, 11, 12, 13, 17, 18] [] (fun i t => (5, .slc 1000 0 i.2.length) :: (19, .d (.int .i64 i.1)) :: t) (fun i t => (1000, ⟨3, 1, dl (lenc (PD.int .i64) i.2)⟩) :: t) hl_18 ?_ ?_; exact sb; clear hl_18
    rintro ⟨v2, L4⟩ _ hb_20; unfold m_tariff_cuts_l2 at hb_20; try dsimp only at hb_20
    try dsimp only
    refine sg fun K k => ?_
    refine oo ?_
    refine AOps.nil (k _ ?_)
    refine AWp.seq fun _ K_23 => ?_
    refine cd hb_20 (fun hb_20 => ?_) (fun hb_20 => ?_)
    ·refine AWp.skip ?_
     refine K_23 _ ?_
     refine AWp.seq fun _ K_25 => ?_
     refine AWp.block ?_
     refine sg fun K k => ?_
     obtain ⟨e2, ⟨f_26, f_27, f_28, f_29⟩, hb_20⟩ := idx_bind hb_20
     refine oo ?_
     refine oo ?_ (by intro K k; simp (disch := omega) only [go_sem, f_28, ↓reduceIte]; exact k)
     iterate 2 refine oo ?_
     refine AOps.nil (k _ ?_)
     refine AWp.draw mo [] trivial ?_
     obtain ⟨e3, ⟨f_30, f_31, f_32, f_33⟩, hb_20⟩ := idx_bind hb_20
     iterate 6 refine dd ?_
     refine dd ?_ (by intro K k; simp (disch := omega) only [go_sem, f_32, ↓reduceIte]; exact k)
     iterate 5 refine dd ?_
     refine dd ?_ (by intro K k; simp (disch := omega) only [go_sem, f_32, ↓reduceIte]; exact k)
     refine ddl ?_
     refine DOps.stop (by kernel_rfl) ?_
     obtain ⟨hg_34, hb_20⟩ := guardO_some hb_20
     iterate 2 refine oo ?_
     refine AOps.nil ?_
     refine K_25 _ ?_
     refine AWp.reg ?_
     iterate 2 refine oo ?_
     refine AOps.nil ?_
     exact ln hb_20 sb
    ·refine AWp.exit ?_
     refine lx hb_20 fun hx => ?_; cases hx; try dsimp only at h2_19
     cases h2_19; exact sb
   ·rintro L3 hb_6; dsimp only at hb_6 ⊢
    refine AWp.reg ?_
    iterate 2 refine oo ?_
    refine AOps.nil ?_
    exact ln hb_6 sb
  ·refine AWp.exit ?_
   refine lx hb_6 fun hx => ?_; cases hx; try dsimp only at h2_5
   cases h2_5; exact sb
 ·rintro L1 h; dsimp only at h ⊢
  refine sg fun K k => ?_
  obtain ⟨hg_35, h⟩ := guardO_some h
  refine oo ?_
  refine clH 1000 (sort_hand L1 hg_35) ?_
  refine AOps.nil (k _ ?_)
  refine sg fun K k => ?_
  obtain ⟨hg_36, h⟩ := guardO_some h
  refine oo ?_
  refine clH 1000 (compact_hand (sortI L1) hg_36) ?_
  refine AOps.sub (τ := ⟨[(43, .d (.imm 1 (lenc (PD.int .i64) (List.take ((compactI (sortI L1)).length) (compactP (sortI L1))))))], [], [], none⟩) sct ?_
  refine oo ?_
  refine AOps.nil (k _ ?_)
  refine jn (α := (List Int)) [] [] (fun i t => (5, .d (.imm 1 (lenc (PD.int .i64) i))) :: t) (fun i t => t) h ?_ ?_
  ·intro _ hj_38
   refine sg fun K k => ?_
   obtain ⟨e4, ⟨f_39, f_40, f_41, f_42⟩, hj_38⟩ := idx_bind hj_38
   try simp only [List.length_append, List.length_set, List.length_replicate, List.length_cons, List.length_nil] at f_40 f_42
   try simp only [Int.reduceToNat] at f_41 f_42
   iterate 2 refine oo ?_
   refine oo ?_ (by intro K k; simp (disch := omega) only [go_sem, f_41, ↓reduceIte]; exact k)
   refine oo ?_
   refine AOps.nil (k _ ?_)
   refine cd hj_38 (fun hj_38 => ?_) (fun hj_38 => ?_)
   ·refine AWp.reg ?_
    obtain ⟨hg_44, hj_38⟩ := guardO_some hj_38
    iterate 3 refine oo ?_
    refine AOps.nil ?_
    cases hj_38; exact sb
   ·refine AWp.skip ?_
    cases hj_38; exact sb
  ·rintro out1 h; dsimp only at h ⊢
   refine sg fun K k => ?_
   iterate 2 refine oo ?_
   refine AOps.nil (k _ ?_)
   refine AWp.ret ?_
   cases h; exact rt
end Go.Pv.Tryd

namespace Go.Pv.Tryd
open Go.Proofs Go.Pv
theorem m_tariff_fits_ok (t1 : (List Rule)) (mark1 : Int) (value1 : Int) (r : Int) (h : m_tariff_fits t1 mark1 value1 = some r) : PureFn Tryd.prog G 82 [.d (.imm 2 (lenc Rule.pd t1)), .d (.int .i64 mark1), .d (.int .i64 value1)] (.d (.int .u32 r)) := by
 unfold m_tariff_fits at h
 refine pf Tryd.func82 Tryd.ntmps82 ?_
 refine sg fun K k => ?_
 refine oo ?_
 refine AOps.nil (k _ ?_)
 refine sg fun K k => ?_
 refine oo ?_
 refine AOps.nil (k _ ?_)
 refine jn (α := Int) [] [] (fun i t => (7, .d (.int .u32 i)) :: t) (fun i t => t) h ?_ ?_
 ·intro _ hj_2
  refine sg fun K k => ?_
  iterate 3 refine oo ?_
  refine AOps.nil (k _ ?_)
  refine AWp.block ?_
  obtain ⟨x_7, hl_4, h2_5⟩ := bind_some hj_2
  refine lp (S := (Int × Int)) [1, 2, 11, 12] [] (fun i t => (7, .d (.int .u32 i.1)) :: (13, .d (.int .i64 i.2)) :: t) (fun i t => t) hl_4 ?_ ?_; exact sb; clear hl_4
  rintro ⟨out2, v1⟩ _ hb_6; unfold m_tariff_fits_l1 at hb_6; try dsimp only at hb_6
  try dsimp only
  refine sg fun K k => ?_
  refine oo ?_
  refine AOps.nil (k _ ?_)
  refine AWp.seq fun _ K_9 => ?_
  refine cd hb_6 (fun hb_6 => ?_) (fun hb_6 => ?_)
  ·refine AWp.skip ?_
   refine K_9 _ ?_
   refine jn (α := Int) [1, 2, 11, 12, 13] [] (fun i t => (7, .d (.int .u32 i)) :: t) (fun i t => t) hb_6 ?_ ?_
   ·intro _ hj_12
    refine AWp.block ?_
    refine sg fun K k => ?_
    obtain ⟨e1, ⟨f_13, f_14, f_15, f_16⟩, hj_12⟩ := idx_bind hj_12
    iterate 2 refine oo ?_
    refine oo ?_ (by intro K k; simp (disch := omega) only [go_sem, f_15, ↓reduceIte]; exact k)
    iterate 3 refine oo ?_
    refine AOps.nil (k _ ?_)
    refine sg fun K k => ?_
    obtain ⟨e2, ⟨f_17, f_18, f_19, f_20⟩, hj_12⟩ := idx_bind hj_12
    iterate 4 refine oo ?_
    refine oo ?_ (by intro K k; simp (disch := omega) only [go_sem, f_19, ↓reduceIte]; exact k)
    iterate 2 refine oo ?_
    refine AOps.nil (k _ ?_)
    refine sg fun K k => ?_
    iterate 5 refine oo ?_
    refine ct 5 [1, 2, 7, 8, 11, 12, 13] [] (fun  t => (32, .d (.bool ((decide (e2.Lo ≤ value1)) && (decide (value1 < e2.Hi))))) :: t) ?_ ?_
    ·rcases bt (decide (e2.Lo ≤ value1)) with hg_22 | hg_22
     ·rw [hg_22]
      iterate 5 refine oo ?_
      refine AOps.nil ?_
      exact sb
     ·rw [hg_22]
      iterate 5 refine oo ?_
      refine AOps.nil ?_
      exact sb
    refine AOps.nil (k _ ?_)
    refine cd hj_12 (fun hj_12 => ?_) (fun hj_12 => ?_)
    ·refine AWp.reg ?_
     obtain ⟨hg_24, hj_12⟩ := guardO_some hj_12
     iterate 5 refine oo ?_
     refine AOps.nil ?_
     cases hj_12; exact sb
    ·refine AWp.skip ?_
     cases hj_12; exact sb
   ·rintro out3 hb_6; dsimp only at hb_6 ⊢
    refine AWp.reg ?_
    iterate 2 refine oo ?_
    refine AOps.nil ?_
    exact ln hb_6 sb
  ·refine AWp.exit ?_
   refine lx hb_6 fun hx => ?_; cases hx; try dsimp only at h2_5
   cases h2_5; exact sb
 ·rintro out1 h; dsimp only at h ⊢
  refine sg fun K k => ?_
  iterate 2 refine oo ?_
  refine AOps.nil (k _ ?_)
  refine AWp.ret ?_
  cases h; exact rt
end Go.Pv.Tryd

namespace Go.Pv.Tryd
open Go.Proofs Go.Pv
theorem m_tariff_set_first_ok (s1 : Int) (r : Int) (h : m_tariff_set_first s1 = some r) : PureFn Tryd.prog G 80 [.d (.int .u32 s1)] (.d (.int .i64 r)) := by
 unfold m_tariff_set_first at h
 refine pf Tryd.func80 Tryd.ntmps80 ?_
 refine sg fun K k => ?_
 refine oo ?_
 refine AOps.nil (k _ ?_)
 refine jm (ι := Unit) [] [] (fun i t => t) (fun i t => t) .inl h ?_ ?_
 ·intro _ hj_2 h
  refine sg fun K k => ?_
  refine oo ?_
  refine AOps.nil (k _ ?_)
  refine AWp.block ?_
  obtain ⟨x_7, hl_4, h2_5⟩ := bind_some hj_2
  refine lp (S := Int) [0] [] (fun i t => (4, .d (.int .i64 i)) :: t) (fun i t => t) hl_4 ?_ ?_; exact sb; clear hl_4
  rintro v1 _ hb_6; unfold m_tariff_set_first_l1 at hb_6; try dsimp only at hb_6
  try dsimp only
  refine sg fun K k => ?_
  refine oo ?_
  refine AOps.nil (k _ ?_)
  refine AWp.seq fun _ K_9 => ?_
  refine cd hb_6 (fun hb_6 => ?_) (fun hb_6 => ?_)
  ·refine AWp.skip ?_
   refine K_9 _ ?_
   refine AWp.seq fun _ K_11 => ?_
   refine AWp.block ?_
   refine sg fun K k => ?_
   iterate 2 refine oo ?_
   refine AOps.nil (k _ ?_)
   refine sg fun K k => ?_
   obtain ⟨hg_12, hb_6⟩ := guardO_some hb_6
   iterate 5 refine oo ?_
   refine AOps.nil (k _ ?_)
   refine cd hb_6 (fun hb_6 => ?_) (fun hb_6 => ?_)
   ·refine sg fun K k => ?_
    iterate 2 refine oo ?_
    refine AOps.nil (k _ ?_)
    refine AWp.ret ?_
    refine lx hb_6 fun hx => ?_; cases hx; try dsimp only at h2_5
    cases h2_5; try dsimp only at h
    cases h; exact rt
   ·refine AWp.skip ?_
    refine K_11 _ ?_
    refine AWp.reg ?_
    iterate 2 refine oo ?_
    refine AOps.nil ?_
    exact ln hb_6 sb
  ·refine AWp.exit ?_
   refine lx hb_6 fun hx => ?_; cases hx; try dsimp only at h2_5
   exact ln h2_5 sb
 ·rintro _ h; dsimp only at h ⊢
  refine sg fun K k => ?_
  refine oo ?_
  refine AOps.nil (k _ ?_)
  refine AWp.ret ?_
  cases h; exact rt
end Go.Pv.Tryd

namespace Go.Pv.Tryd
open Go.Proofs Go.Pv
set_option maxHeartbeats 4000000 in
theorem m_tariff_counts_1_h_ok (n : Nat) : ∀ (o1 : (List Rule)) (o2 : Int) (m1 : (List (Arr3_Int × (List Int)))) (mark1 : Int) (a1 : Int) (r : ((List Int) × (List (Arr3_Int × (List Int))))) (h : m_tariff_counts_1_h n o1 o2 m1 mark1 a1 = some r), ObjFn Tryd.prog G 93 [.d (.int .i64 mark1), .d (.int .u32 a1), .ptr 0 0 0, .ptr 1 0 0, .ptr 2 0 0, .ptr 3 0 0] [(0, ⟨135, 1, [.mp 4]⟩), (1, ⟨22, 1, [.d (.imm 2 (lenc Rule.pd o1))]⟩), (2, ⟨3, 1, [.d (.int .i64 o2)]⟩), (3, ⟨136, 1, [.func (.func 93) [.ptr 0 0 0, .ptr 1 0 0, .ptr 2 0 0, .ptr 3 0 0]]⟩), (4, ⟨135, 0, mels Arr3_Int.pd (slenc 1 (PD.int .i64)) m1⟩)] (.d (.imm 1 (lenc (PD.int .i64) r.1))) [(0, ⟨135, 1, [.mp 4]⟩), (1, ⟨22, 1, [.d (.imm 2 (lenc Rule.pd o1))]⟩), (2, ⟨3, 1, [.d (.int .i64 o2)]⟩), (3, ⟨136, 1, [.func (.func 93) [.ptr 0 0 0, .ptr 1 0 0, .ptr 2 0 0, .ptr 3 0 0]]⟩), (4, ⟨135, 0, mels Arr3_Int.pd (slenc 1 (PD.int .i64)) r.2⟩)] := by
 induction n with
 | zero => intro o1 o2 m1 mark1 a1 r h; cases h
 | succ n ih =>
  intro o1 o2 m1 mark1 a1 r h
  replace h : m_tariff_counts_1_h_b (m_tariff_counts_1_h n) o1 o2 m1 mark1 a1 = some r := h
  unfold m_tariff_counts_1_h_b at h
  refine ObjFn.pf Tryd.func93 Tryd.ntmps93 ?_
  refine sg fun K k => ?_
  refine oo ?_
  refine AOps.nil (k _ ?_)
  refine sg fun K k => ?_
  iterate 6 refine oo ?_
  refine AOps.nil (k _ ?_)
  refine AWp.seq fun _ K_1 => ?_
  refine sg fun K k => ?_
  iterate 2 refine oo ?_
  refine oml (k := (⟨mark1, (IntKind.i64.wrap a1), 0⟩ : Arr3_Int)) (L := m1) (v0 := []) (encV := (slenc 1 (PD.int .i64))) KE121 MU135 ty26 MZ26 (fun _ _ => .imm0 _) ?_
  iterate 5 refine oo ?_
  refine AOps.nil (k _ ?_)
  refine sg fun K k => ?_
  refine oo ?_
  refine AOps.nil (k _ ?_)
  refine cd h (fun h => ?_) (fun h => ?_)
  ·refine sg fun K k => ?_
   iterate 2 refine oo ?_
   refine AOps.nil (k _ ?_)
   refine AWp.ret ?_
   cases h; exact rtO
  ·refine AWp.skip ?_
   refine K_1 _ ?_
   refine sg fun K k => ?_
   obtain ⟨hg_3, h⟩ := guardO_some h
   iterate 5 refine oo ?_
   refine AOps.nil (k _ ?_)
   refine sg fun K k => ?_
   refine oo ?_
   refine AOps.nil (k _ ?_)
   refine jn (α := ((List (Arr3_Int × (List Int))) × (List Int))) [2, 9] [1, 2, 3, 1000] (fun i t => (12, .slc 1001 0 i.2.length) :: t) (fun i t => (0, ⟨135, 1, [.mp 4]⟩) :: (4, ⟨135, 0, mels Arr3_Int.pd (slenc 1 (PD.int .i64)) i.1⟩) :: (1001, ⟨3, 1, dl (lenc (PD.int .i64) i.2)⟩) :: t) h ?_ ?_
   ·intro _ hj_5
    refine sg fun K k => ?_
    iterate 2 refine oo ?_
    refine ol ?_
    obtain ⟨r1, hx_6, hj_5⟩ := bind_some hj_5
    refine cl (m_tariff_cuts_ok mark1 [o1] _ hx_6) ?_
    iterate 2 refine oo ?_
    refine AOps.nil (k _ ?_)
    refine AWp.block ?_
    obtain ⟨x_11, hl_8, h2_9⟩ := bind_some hj_5
    refine lp (S := (Int × Int × (List (Arr3_Int × (List Int))) × (List Int))) [0, 1, 2, 3, 4, 5, 9, 39, 40] [1, 2, 3, 1000] (fun i t => (12, .slc 1001 0 i.2.2.2.length) :: (13, .d (.int .i64 i.1)) :: (41, .d (.int .i64 i.2.1)) :: t) (fun i t => (0, ⟨135, 1, [.mp 4]⟩) :: (4, ⟨135, 0, mels Arr3_Int.pd (slenc 1 (PD.int .i64)) i.2.2.1⟩) :: (1001, ⟨3, 1, dl (lenc (PD.int .i64) i.2.2.2)⟩) :: t) hl_8 ?_ ?_; exact sb; clear hl_8
    rintro ⟨from1, v1, M2, L2⟩ _ hb_10; unfold m_tariff_counts_1_h_l1 at hb_10; try dsimp only at hb_10
    try dsimp only
    refine sg fun K k => ?_
    refine oo ?_
    refine AOps.nil (k _ ?_)
    refine AWp.seq fun _ K_13 => ?_
    refine cd hb_10 (fun hb_10 => ?_) (fun hb_10 => ?_)
    ·refine AWp.skip ?_
     refine K_13 _ ?_
     refine jn (α := (Int × (List (Arr3_Int × (List Int))) × (List Int))) [0, 1, 2, 3, 4, 5, 9, 39, 40, 41] [1, 2, 3, 1000] (fun i t => (12, .slc 1001 0 i.2.2.length) :: (13, .d (.int .i64 i.1)) :: t) (fun i t => (0, ⟨135, 1, [.mp 4]⟩) :: (4, ⟨135, 0, mels Arr3_Int.pd (slenc 1 (PD.int .i64)) i.2.1⟩) :: (1001, ⟨3, 1, dl (lenc (PD.int .i64) i.2.2)⟩) :: t) hb_10 ?_ ?_
     ·intro _ hj_16
      refine AWp.block ?_
      refine sg fun K k => ?_
      obtain ⟨e1, ⟨f_17, f_18, f_19, f_20⟩, hj_16⟩ := idx_bind hj_16
      refine oo ?_
      refine oo ?_ (by intro K k; simp (disch := omega) only [go_sem, f_19, ↓reduceIte]; exact k)
      refine oo ?_
      refine AOps.nil (k _ ?_)
      refine sg fun K k => ?_
      iterate 4 refine oo ?_
      obtain ⟨r2, hx_21, hj_16⟩ := bind_some hj_16
      refine cl (m_tariff_fits_ok o1 mark1 from1 _ hx_21) ?_
      iterate 2 refine oo ?_
      refine AOps.nil (k _ ?_)
      refine jn (α := ((List (Arr3_Int × (List Int))) × (List Int))) [0, 1, 2, 3, 4, 5, 9, 15, 39, 40, 41] [1, 2, 3, 1000] (fun i t => (12, .slc 1001 0 i.2.length) :: t) (fun i t => (0, ⟨135, 1, [.mp 4]⟩) :: (4, ⟨135, 0, mels Arr3_Int.pd (slenc 1 (PD.int .i64)) i.1⟩) :: (1001, ⟨3, 1, dl (lenc (PD.int .i64) i.2)⟩) :: t) hj_16 ?_ ?_
      ·intro _ hj_23
       refine sg fun K k => ?_
       iterate 4 refine oo ?_
       refine AOps.nil (k _ ?_)
       refine cd hj_23 (fun hj_23 => ?_) (fun hj_23 => ?_)
       ·refine sg fun K k => ?_
        iterate 4 refine oo ?_
        obtain ⟨r3, hx_25, hj_23⟩ := bind_some hj_23
        refine clU [(0, 0), (1, 1), (2, 2), (3, 3), (4, 4)] [] (ih o1 o2 M2 (IntKind.i64.wrap (mark1 + 1)) (IntKind.u32.wrap ↑(BitVec.ofInt IntKind.u32.bits a1 &&& BitVec.ofInt IntKind.u32.bits r2).toNat) _ hx_25) ?_
        iterate 2 refine oo ?_
        refine AOps.nil (k _ ?_)
        refine AWp.block ?_
        obtain ⟨x_30, hl_27, h2_28⟩ := bind_some hj_23
        refine lp (S := (Int × (List Int))) [0, 1, 2, 3, 4, 5, 9, 13, 15, 39, 40, 41, 59, 60] [0, 1, 2, 3, 4, 1000] (fun i t => (12, .slc 1001 0 i.2.length) :: (61, .d (.int .i64 i.1)) :: t) (fun i t => (1001, ⟨3, 1, dl (lenc (PD.int .i64) i.2)⟩) :: t) hl_27 ?_ ?_; exact sb; clear hl_27
        rintro ⟨v2, L5⟩ _ hb_29; unfold m_tariff_counts_1_h_l2 at hb_29; try dsimp only at hb_29
        try dsimp only
        refine sg fun K k => ?_
        refine oo ?_
        refine AOps.nil (k _ ?_)
        refine AWp.seq fun _ K_32 => ?_
        refine cd hb_29 (fun hb_29 => ?_) (fun hb_29 => ?_)
        ·refine AWp.skip ?_
         refine K_32 _ ?_
         refine AWp.seq fun _ K_34 => ?_
         refine AWp.block ?_
         refine sg fun K k => ?_
         obtain ⟨e2, ⟨f_35, f_36, f_37, f_38⟩, hb_29⟩ := idx_bind hb_29
         iterate 2 refine oo ?_
         refine oo ?_ (by intro K k; simp (disch := omega) only [go_sem, f_37, ↓reduceIte]; exact k)
         iterate 2 refine oo ?_
         refine AOps.nil (k _ ?_)
         refine AWp.reg ?_
         obtain ⟨e3, ⟨f_39, f_40, f_41, f_42⟩, hb_29⟩ := idx_bind hb_29
         iterate 3 refine oo ?_
         refine oo ?_ (by intro K k; simp (disch := omega) only [go_sem, f_41, ↓reduceIte]; exact k)
         iterate 7 refine oo ?_
         refine oo ?_ (by intro K k; simp (disch := omega) only [go_sem, f_41, ↓reduceIte]; exact k)
         refine AOps.nil ?_
         refine K_34 _ ?_
         refine AWp.reg ?_
         iterate 2 refine oo ?_
         refine AOps.nil ?_
         exact ln hb_29 sb
        ·refine AWp.exit ?_
         refine lx hb_29 fun hx => ?_; cases hx; try dsimp only at h2_28
         cases h2_28; exact sb
       ·refine sg fun K k => ?_
        refine oo ?_
        obtain ⟨r4, hx_43, hj_23⟩ := bind_some hj_23
        refine cl (m_tariff_set_first_ok (IntKind.u32.wrap ↑(BitVec.ofInt IntKind.u32.bits a1 &&& BitVec.ofInt IntKind.u32.bits r2).toNat) _ hx_43) ?_
        refine oo ?_
        refine AOps.nil (k _ ?_)
        refine sg fun K k => ?_
        iterate 2 refine oo ?_
        refine AOps.nil (k _ ?_)
        refine cd hj_23 (fun hj_23 => ?_) (fun hj_23 => ?_)
        ·refine AWp.reg ?_
         obtain ⟨e4, ⟨f_45, f_46, f_47, f_48⟩, hj_23⟩ := idx_bind hj_23
         try simp only [Int.toNat_natCast] at f_47 f_48
         iterate 4 refine oo ?_
         refine oo ?_ (by intro K k; simp (disch := omega) only [go_sem, f_47, Int.toNat_natCast, ↓reduceIte]; exact k)
         iterate 5 refine oo ?_
         refine oo ?_ (by intro K k; simp (disch := omega) only [go_sem, f_47, Int.toNat_natCast, ↓reduceIte]; exact k)
         refine AOps.nil ?_
         cases hj_23; exact sb
        ·refine AWp.reg ?_
         obtain ⟨e5, ⟨f_49, f_50, f_51, f_52⟩, hj_23⟩ := idx_bind hj_23
         iterate 3 refine oo ?_
         refine oo ?_ (by intro K k; simp (disch := omega) only [go_sem, f_51, ↓reduceIte]; exact k)
         iterate 5 refine oo ?_
         refine oo ?_ (by intro K k; simp (disch := omega) only [go_sem, f_51, ↓reduceIte]; exact k)
         refine AOps.nil ?_
         cases hj_23; exact sb
      ·rintro ⟨M4, L4⟩ hj_16; dsimp only at hj_16 ⊢
       refine AWp.reg ?_
       iterate 2 refine oo ?_
       refine AOps.nil ?_
       cases hj_16; exact sb
     ·rintro ⟨from2, M3, L3⟩ hb_10; dsimp only at hb_10 ⊢
      refine AWp.reg ?_
      iterate 2 refine oo ?_
      refine AOps.nil ?_
      exact ln hb_10 sb
    ·refine AWp.exit ?_
     refine lx hb_10 fun hx => ?_; cases hx; try dsimp only at h2_9
     cases h2_9; exact sb
   ·rintro ⟨M1, L1⟩ h; dsimp only at h ⊢
    refine sg fun K k => ?_
    iterate 3 refine oo ?_
    refine AOps.sub (τ := ⟨[(12, .d (.imm 1 (lenc (PD.int .i64) L1))), (103, .mp 4), (104, .d (.agg [(.int .i64 mark1), (.int .i64 (IntKind.i64.wrap a1)), (.int .i64 0)])), (105, .d (.imm 1 (lenc (PD.int .i64) L1)))], [(0, ⟨135, 1, [.mp 4]⟩), (1, ⟨22, 1, [.d (.imm 2 (lenc Rule.pd o1))]⟩), (2, ⟨3, 1, [.d (.int .i64 o2)]⟩), (3, ⟨136, 1, [.func (.func 93) [.ptr 0 0 0, .ptr 1 0 0, .ptr 2 0 0, .ptr 3 0 0]]⟩), (4, ⟨135, 0, mels Arr3_Int.pd (slenc 1 (PD.int .i64)) M1⟩)], [], none⟩) sc ?_
    refine oms (k := (⟨mark1, (IntKind.i64.wrap a1), 0⟩ : Arr3_Int)) (L := M1) (v := L1) (encV := (slenc 1 (PD.int .i64))) KE121 MU135 ?_
    refine AOps.nil (k _ ?_)
    refine sg fun K k => ?_
    iterate 2 refine oo ?_
    refine AOps.nil (k _ ?_)
    refine AWp.ret ?_
    cases h; exact rtO
end Go.Pv.Tryd

namespace Go.Pv.Tryd
open Go.Proofs Go.Pv
theorem lenc_nil_of {α : Type} {f : α → PD} {l : List α} (h : lenc f l = []) : l = [] := by simpa [lenc] using h
theorem clone_92 (l r : List Int) (h : cloneO l = some r) : RowFn Tryd.prog G 92 [.d (.imm 1 (lenc (PD.int .i64) l))] 3 1 (lenc (PD.int .i64) r) := by
  unfold cloneO at h
  split at h
  · rename_i hlen
    cases h
    refine Fn.pf Tryd.func92 Tryd.ntmps92 ?_
    refine sg fun K k => ?_
    refine oo ?_
    refine AOps.nil (k _ ?_)
    refine AWp.seq fun _ K_1 => ?_
    refine sg fun K k => ?_
    refine oo ?_
    refine nt ty26 T26_desc (fun he => ?_) ?_
    · simp only [go_sem, ↓reduceIte]
      refine AOps.nil (k _ ?_)
      refine cdt ?_
      cases lenc_nil_of he
      refine sg fun K k => ?_
      refine oo ?_
      refine AOps.nil (k _ ?_)
      refine AWp.sub (Sub.void 2 3 1 1000 (by rfl) (by rfl) (by decide) (by decide)) ?_
      simp only [eput, hput, ↓reduceIte, Nat.reduceEqDiff]
      refine AWp.ret ?_
      exact rtRow (hn := by rfl)
    · simp only [go_sem, ↓reduceIte]
      refine AOps.nil (k _ ?_)
      refine cdf ?_
      refine AWp.skip ?_
      refine K_1 _ ?_
      refine sg fun K k => ?_
      iterate 4 refine oo ?_
      refine AOps.nil (k _ ?_)
      refine AWp.ret ?_
      exact rtRow (hn := by rw [lenc_length])
  · cases h
end Go.Pv.Tryd

namespace Go.Pv.Tryd
open Go.Proofs Go.Pv
theorem m_tariff_counts_ok (k1 : Int) (t1 : (List Rule)) (r : (List Int)) (h : m_tariff_counts k1 t1 = some r) : PureFn Tryd.prog G 60 [.d (.int .i64 k1), .d (.imm 2 (lenc Rule.pd t1))] (.d (.imm 1 (lenc (PD.int .i64) r))) := by
 unfold m_tariff_counts at h
 refine pf Tryd.func60 Tryd.ntmps60 ?_
 refine sg fun K k => ?_
 iterate 3 refine oo ?_
 refine AOps.nil (k _ ?_)
 refine sg fun K k => ?_
 refine omk (α := Arr3_Int) (β := (List Int)) Arr3_Int.pd (slenc 1 (PD.int .i64)) 1002 ?_
 iterate 2 refine oo ?_
 refine AOps.nil (k _ ?_)
 refine sg fun K k => ?_
 refine oo ?_
 refine AOps.nil (k _ ?_)
 refine sg fun K k => ?_
 iterate 2 refine oo ?_
 refine AOps.nil (k _ ?_)
 refine sd mo fun K k => ?_
 iterate 2 refine dd ?_
 obtain ⟨r1, hx_1, h⟩ := bind_some h
 refine dcl (m_tariff_all_ok t1 _ hx_1) ?_
 refine DOps.stop (by kernel_rfl) ?_
 obtain ⟨r2, hx_2, h⟩ := bind_some h
 refine clU [(0, 1003), (1, 1001), (2, 1000), (3, 1004), (4, 1002)] [] (m_tariff_counts_1_h_ok 100 t1 k1 [] 0 r1 _ hx_2) ?_
 obtain ⟨r3, hx_3, h⟩ := bind_some h
 refine clRow 1005 (clone_92 r2.1 _ hx_3) ?_
 refine oo ?_
 refine AOps.nil (k _ ?_)
 refine AWp.ret ?_
 cases h; exact rt
end Go.Pv.Tryd

namespace Go.Pv.Tryd
open Go.Proofs Go.Pv
theorem m_tariff_Dead_ok (k1 : Int) (t1 : (List Rule)) (r : ((List Int) × Int)) (h : m_tariff_Dead k1 t1 = some r) : PureFn Tryd.prog G 30 [.d (.int .i64 k1), .d (.imm 2 (lenc Rule.pd t1))] (.tuple [.d (.imm 1 (lenc (PD.int .i64) r.1)), .d (.int .i64 r.2)]) := by
 unfold m_tariff_Dead at h
 refine pf Tryd.func30 Tryd.ntmps30 ?_
 refine sg fun K k => ?_
 iterate 2 refine oo ?_
 refine AOps.nil (k _ ?_)
 refine AWp.seq fun _ K_1 => ?_
 refine sg fun K k => ?_
 iterate 2 refine oo ?_
 refine ol ?_
 obtain ⟨r1, hx_2, h⟩ := bind_some h
 refine cl (m_tariff_checked_ok k1 [t1] _ hx_2) ?_
 refine oo ?_
 refine AOps.nil (k _ ?_)
 refine sg fun K k => ?_
 iterate 2 refine oo ?_
 refine AOps.nil (k _ ?_)
 refine cd h (fun h => ?_) (fun h => ?_)
 ·refine sg fun K k => ?_
  iterate 3 refine oo ?_
  refine AOps.nil (k _ ?_)
  refine AWp.ret ?_
  cases h; exact rt
 ·refine AWp.skip ?_
  refine K_1 _ ?_
  refine sg fun K k => ?_
  refine oo ?_
  refine AOps.nil (k _ ?_)
  refine AWp.sub (Sub.void 7 3 1 1000 (by rfl) (by rfl) (by decide) (by decide)) ?_
  simp only [eput, hput, reduceCtorEq, ↓reduceIte, Nat.reduceAdd, Nat.reduceMul, Nat.reduceLT, Nat.reduceLeDiff, Nat.reduceEqDiff, Nat.reduceBEq, Int.reduceToNat]
  refine jn (α := (List Int)) [] [] (fun i t => (7, .slc 1000 0 i.length) :: t) (fun i t => (1000, ⟨3, 1, dl (lenc (PD.int .i64) i)⟩) :: t) h ?_ ?_
  ·intro _ hj_5
   refine sg fun K k => ?_
   iterate 2 refine oo ?_
   obtain ⟨r2, hx_6, hj_5⟩ := bind_some hj_5
   refine cl (m_tariff_counts_ok k1 t1 _ hx_6) ?_
   obtain ⟨hg_7, hj_5⟩ := guardO_some hj_5
   iterate 5 refine oo ?_
   refine AOps.nil (k _ ?_)
   refine AWp.block ?_
   obtain ⟨x_12, hl_9, h2_10⟩ := bind_some hj_5
   refine lp (S := (Int × (List Int))) [22, 23] [] (fun i t => (7, .slc 1000 0 i.2.length) :: (24, .d (.int .i64 i.1)) :: t) (fun i t => (1000, ⟨3, 1, dl (lenc (PD.int .i64) i.2)⟩) :: t) hl_9 ?_ ?_; exact sb; clear hl_9
   rintro ⟨v1, L2⟩ _ hb_11; unfold m_tariff_Dead_l1 at hb_11; try dsimp only at hb_11
   try dsimp only
   refine sg fun K k => ?_
   refine oo ?_
   refine AOps.nil (k _ ?_)
   refine AWp.seq fun _ K_14 => ?_
   refine cd hb_11 (fun hb_11 => ?_) (fun hb_11 => ?_)
   ·refine AWp.skip ?_
    refine K_14 _ ?_
    refine jn (α := (List Int)) [22, 23, 24] [] (fun i t => (7, .slc 1000 0 i.length) :: t) (fun i t => (1000, ⟨3, 1, dl (lenc (PD.int .i64) i)⟩) :: t) hb_11 ?_ ?_
    ·intro _ hj_17
     refine AWp.block ?_
     refine sg fun K k => ?_
     obtain ⟨e1, ⟨f_18, f_19, f_20, f_21⟩, hj_17⟩ := idx_bind hj_17
     try simp only [List.length_append, List.length_set, List.length_replicate, List.length_cons, List.length_nil] at f_19 f_21
     iterate 2 refine oo ?_
     refine oo ?_ (by intro K k; simp (disch := omega) only [go_sem, f_20, ↓reduceIte]; exact k)
     iterate 2 refine oo ?_
     refine AOps.nil (k _ ?_)
     refine sg fun K k => ?_
     iterate 2 refine oo ?_
     refine AOps.nil (k _ ?_)
     refine cd hj_17 (fun hj_17 => ?_) (fun hj_17 => ?_)
     ·refine AWp.reg ?_
      iterate 2 refine oo ?_
      refine ol ?_
      obtain ⟨hg_23, hj_17⟩ := guardO_some hj_17
      iterate 2 refine oo ?_
      refine AOps.nil ?_
      cases hj_17; exact sb
     ·refine AWp.skip ?_
      cases hj_17; exact sb
    ·rintro L3 hb_11; dsimp only at hb_11 ⊢
     refine AWp.reg ?_
     iterate 2 refine oo ?_
     refine AOps.nil ?_
     exact ln hb_11 sb
   ·refine AWp.exit ?_
    refine lx hb_11 fun hx => ?_; cases hx; try dsimp only at h2_10
    cases h2_10; exact sb
  ·rintro L1 h; dsimp only at h ⊢
   refine sg fun K k => ?_
   iterate 3 refine oo ?_
   refine AOps.nil (k _ ?_)
   refine AWp.ret ?_
   cases h; exact rt
end Go.Pv.Tryd

namespace Go.Pv.Tryd
open Go.Proofs Go.Pv
theorem m_tariff_Gap_1_ok (i1 : Int) (v1 : Int) (r : Bool) (h : m_tariff_Gap_1 i1 v1 = some r) : PureFn Tryd.prog G 50 [.d (.int .i64 i1), .d (.int .i64 v1)] (.d (.bool r)) := by
 unfold m_tariff_Gap_1 at h
 refine pf Tryd.func50 Tryd.ntmps50 ?_
 refine sg fun K k => ?_
 refine oo ?_
 refine AOps.nil (k _ ?_)
 refine sg fun K k => ?_
 iterate 3 refine oo ?_
 refine AOps.nil (k _ ?_)
 refine AWp.ret ?_
 cases h; exact rt
end Go.Pv.Tryd

namespace Go.Pv.Tryd
open Go.Proofs Go.Pv
set_option maxHeartbeats 4000000 in
theorem m_tariff_walker_find_1_h_f50_ok (n : Nat) : ∀ (o1 : Walker) (m1 : (List (Arr3_Int × Bool))) (mark1 : Int) (a1 : Int) (b1 : Int) (r : ((List Int) × Bool × (List (Arr3_Int × Bool)))) (h : m_tariff_walker_find_1_h_f50 n o1 m1 mark1 a1 b1 = some r), ObjFn Tryd.prog G 79 [.d (.int .i64 mark1), .d (.int .u32 a1), .d (.int .u32 b1), .ptr 0 0 0, .ptr 1 0 0, .ptr 2 0 0, .ptr 3 0 0] [(0, ⟨72, 3, [.d (.agg [(.int .i64 o1.k), (.imm 2 (lenc Rule.pd o1.s)), (.imm 2 (lenc Rule.pd o1.t))])]⟩), (1, ⟨74, 1, [.d (.fn (.func 50))]⟩), (2, ⟨117, 1, [.mp 4]⟩), (3, ⟨118, 1, [.func (.func 79) [.ptr 0 0 0, .ptr 1 0 0, .ptr 2 0 0, .ptr 3 0 0]]⟩), (4, ⟨117, 0, mels Arr3_Int.pd PD.bool m1⟩)] (.tuple [.d (.imm 1 (lenc (PD.int .i64) r.1)), .d (.bool r.2.1)]) [(0, ⟨72, 3, [.d (.agg [(.int .i64 o1.k), (.imm 2 (lenc Rule.pd o1.s)), (.imm 2 (lenc Rule.pd o1.t))])]⟩), (1, ⟨74, 1, [.d (.fn (.func 50))]⟩), (2, ⟨117, 1, [.mp 4]⟩), (3, ⟨118, 1, [.func (.func 79) [.ptr 0 0 0, .ptr 1 0 0, .ptr 2 0 0, .ptr 3 0 0]]⟩), (4, ⟨117, 0, mels Arr3_Int.pd PD.bool r.2.2⟩)] := by
 induction n with
 | zero => intro o1 m1 mark1 a1 b1 r h; cases h
 | succ n ih =>
  intro o1 m1 mark1 a1 b1 r h
  replace h : m_tariff_walker_find_1_h_f50_b (m_tariff_walker_find_1_h_f50 n) o1 m1 mark1 a1 b1 = some r := h
  unfold m_tariff_walker_find_1_h_f50_b at h
  refine ObjFn.pf Tryd.func79 Tryd.ntmps79 ?_
  refine sg fun K k => ?_
  iterate 2 refine oo ?_
  refine AOps.nil (k _ ?_)
  refine AWp.seq fun _ K_1 => ?_
  refine sg fun K k => ?_
  iterate 4 refine oo ?_
  refine AOps.nil (k _ ?_)
  refine cd h (fun h => ?_) (fun h => ?_)
  ·refine sd mo fun K k => ?_
   iterate 2 refine dd ?_
   obtain ⟨r1, hx_3, h⟩ := bind_some h
   refine dcl (m_tariff_set_first_ok a1 _ hx_3) ?_
   refine dd ?_
   obtain ⟨r2, hx_4, h⟩ := bind_some h
   refine dcl (m_tariff_set_first_ok b1 _ hx_4) ?_
   refine DOps.stop (by kernel_rfl) ?_
   obtain ⟨r3, hx_5, h⟩ := bind_some h
   refine clV (m_tariff_Gap_1_ok r1 r2 _ hx_5) ?_
   iterate 2 refine oo ?_
   refine AOps.nil (k _ ?_)
   refine AWp.sub (τ := ⟨[(10, .d (.imm 1 (lenc (PD.int .i64) []))), (11, .d (.bool r3))], [(0, ⟨72, 3, [.d (.agg [(.int .i64 o1.k), (.imm 2 (lenc Rule.pd o1.s)), (.imm 2 (lenc Rule.pd o1.t))])]⟩), (1, ⟨74, 1, [.d (.fn (.func 50))]⟩), (2, ⟨117, 1, [.mp 4]⟩), (3, ⟨118, 1, [.func (.func 79) [.ptr 0 0 0, .ptr 1 0 0, .ptr 2 0 0, .ptr 3 0 0]]⟩), (4, ⟨117, 0, mels Arr3_Int.pd PD.bool m1⟩)], [], none⟩) sc ?_
   refine AWp.ret ?_
   cases h; exact rtO
  ·refine AWp.skip ?_
   refine K_1 _ ?_
   refine sg fun K k => ?_
   iterate 8 refine oo ?_
   refine AOps.nil (k _ ?_)
   refine AWp.seq fun _ K_6 => ?_
   refine sg fun K k => ?_
   iterate 2 refine oo ?_
   refine oml (k := (⟨mark1, (IntKind.i64.wrap a1), (IntKind.i64.wrap b1)⟩ : Arr3_Int)) (L := m1) (v0 := false) (encV := PD.bool) KE121 MU117 ty4 MZ4 (fun _ _ => .bool _) ?_
   refine AOps.nil (k _ ?_)
   refine cd h (fun h => ?_) (fun h => ?_)
   ·refine sg fun K k => ?_
    iterate 2 refine oo ?_
    refine AOps.nil (k _ ?_)
    refine AWp.sub (τ := ⟨[(10, .d (.imm 1 (lenc (PD.int .i64) []))), (11, .d (.bool false))], [(0, ⟨72, 3, [.d (.agg [(.int .i64 o1.k), (.imm 2 (lenc Rule.pd o1.s)), (.imm 2 (lenc Rule.pd o1.t))])]⟩), (1, ⟨74, 1, [.d (.fn (.func 50))]⟩), (2, ⟨117, 1, [.mp 4]⟩), (3, ⟨118, 1, [.func (.func 79) [.ptr 0 0 0, .ptr 1 0 0, .ptr 2 0 0, .ptr 3 0 0]]⟩), (4, ⟨117, 0, mels Arr3_Int.pd PD.bool m1⟩)], [], none⟩) sc ?_
    refine AWp.ret ?_
    cases h; exact rtO
   ·refine AWp.skip ?_
    refine K_6 _ ?_
    refine sg fun K k => ?_
    refine oo ?_
    refine AOps.nil (k _ ?_)
    refine jm (ι := (List (Arr3_Int × Bool))) [5, 12] [0, 1, 3, 1000] (fun i t => t) (fun i t => (2, ⟨117, 1, [.mp 4]⟩) :: (4, ⟨117, 0, mels Arr3_Int.pd PD.bool i⟩) :: t) .inl h ?_ ?_
    ·intro _ hj_9 h
     refine sg fun K k => ?_
     iterate 5 refine oo ?_
     refine ol ?_
     obtain ⟨r4, hx_10, hj_9⟩ := bind_some hj_9
     refine cl (m_tariff_cuts_ok mark1 [o1.s, o1.t] _ hx_10) ?_
     iterate 2 refine oo ?_
     refine AOps.nil (k _ ?_)
     refine AWp.block ?_
     obtain ⟨x_15, hl_12, h2_13⟩ := bind_some hj_9
     refine lp (S := (Int × Int × (List (Arr3_Int × Bool)))) [0, 1, 2, 3, 5, 6, 12, 43, 44] [0, 1, 3, 1000] (fun i t => (13, .d (.int .i64 i.1)) :: (45, .d (.int .i64 i.2.1)) :: t) (fun i t => (2, ⟨117, 1, [.mp 4]⟩) :: (4, ⟨117, 0, mels Arr3_Int.pd PD.bool i.2.2⟩) :: t) hl_12 ?_ ?_; exact sb; clear hl_12
     rintro ⟨from1, v1, M2⟩ _ hb_14; unfold m_tariff_walker_find_1_h_f50_l1 at hb_14; try dsimp only at hb_14
     try dsimp only
     refine sg fun K k => ?_
     refine oo ?_
     refine AOps.nil (k _ ?_)
     refine AWp.seq fun _ K_17 => ?_
     refine cd hb_14 (fun hb_14 => ?_) (fun hb_14 => ?_)
     ·refine AWp.skip ?_
      refine K_17 _ ?_
      refine AWp.seq fun _ K_19 => ?_
      refine AWp.block ?_
      refine sg fun K k => ?_
      obtain ⟨e1, ⟨f_20, f_21, f_22, f_23⟩, hb_14⟩ := idx_bind hb_14
      refine oo ?_
      refine oo ?_ (by intro K k; simp (disch := omega) only [go_sem, f_22, ↓reduceIte]; exact k)
      refine oo ?_
      refine AOps.nil (k _ ?_)
      refine AWp.seq fun _ K_24 => ?_
      refine sd mo fun K k => ?_
      iterate 8 refine dd ?_
      obtain ⟨r5, hx_25, hb_14⟩ := bind_some hb_14
      refine dcl (m_tariff_fits_ok o1.s mark1 from1 _ hx_25) ?_
      iterate 6 refine dd ?_
      obtain ⟨r6, hx_26, hb_14⟩ := bind_some hb_14
      refine dcl (m_tariff_fits_ok o1.t mark1 from1 _ hx_26) ?_
      refine dd ?_
      refine DOps.bar (by kernel_rfl) ?_
      refine BOps.hard (by kernel_rfl) ?_
      obtain ⟨r7, hx_27, hb_14⟩ := bind_some hb_14
      refine clU [(0, 0), (1, 1), (2, 2), (3, 3), (4, 4)] [] (ih o1 M2 (IntKind.i64.wrap (mark1 + 1)) (IntKind.u32.wrap ↑(BitVec.ofInt IntKind.u32.bits a1 &&& BitVec.ofInt IntKind.u32.bits r5).toNat) (IntKind.u32.wrap ↑(BitVec.ofInt IntKind.u32.bits b1 &&& BitVec.ofInt IntKind.u32.bits r6).toNat) _ hx_27) ?_
      refine AOps.nil ?_
      refine BOps.draw [] trivial (Nat.le_of_ble_eq_true rfl) ?_
      iterate 5 refine dd ?_
      refine DOps.nil (by kernel_rfl) (k _ ?_)
      refine sg fun K k => ?_
      refine oo ?_
      refine AOps.nil (k _ ?_)
      refine cd hb_14 (fun hb_14 => ?_) (fun hb_14 => ?_)
      ·refine sg fun K k => ?_
       obtain ⟨hg_29, hb_14⟩ := guardO_some hb_14
       iterate 6 refine oo ?_
       refine AOps.nil (k _ ?_)
       refine AWp.sub (τ := ⟨[(10, .d (.imm 1 (lenc (PD.int .i64) ([from1] ++ r7.1)))), (11, .d (.bool true))], [(0, ⟨72, 3, [.d (.agg [(.int .i64 o1.k), (.imm 2 (lenc Rule.pd o1.s)), (.imm 2 (lenc Rule.pd o1.t))])]⟩), (1, ⟨74, 1, [.d (.fn (.func 50))]⟩), (2, ⟨117, 1, [.mp 4]⟩), (3, ⟨118, 1, [.func (.func 79) [.ptr 0 0 0, .ptr 1 0 0, .ptr 2 0 0, .ptr 3 0 0]]⟩), (4, ⟨117, 0, mels Arr3_Int.pd PD.bool r7.2.2⟩)], [], none⟩) sc ?_
       refine AWp.ret ?_
       refine lx hb_14 fun hx => ?_; cases hx; try dsimp only at h2_13
       cases h2_13; try dsimp only at h
       cases h; exact rtO
      ·refine AWp.skip ?_
       refine K_24 _ ?_
       refine AWp.reg ?_
       iterate 2 refine oo ?_
       refine AOps.nil ?_
       refine K_19 _ ?_
       refine AWp.reg ?_
       iterate 2 refine oo ?_
       refine AOps.nil ?_
       exact ln hb_14 sb
     ·refine AWp.exit ?_
      refine lx hb_14 fun hx => ?_; cases hx; try dsimp only at h2_13
      exact ln h2_13 sb
    ·rintro M1 h; dsimp only at h ⊢
     refine sg fun K k => ?_
     iterate 2 refine oo ?_
     refine oms (k := (⟨mark1, (IntKind.i64.wrap a1), (IntKind.i64.wrap b1)⟩ : Arr3_Int)) (L := M1) (v := true) (encV := PD.bool) KE121 MU117 ?_
     refine AOps.nil (k _ ?_)
     refine sg fun K k => ?_
     iterate 2 refine oo ?_
     refine AOps.nil (k _ ?_)
     refine AWp.sub (τ := ⟨[(10, .d (.imm 1 (lenc (PD.int .i64) []))), (11, .d (.bool false))], [(0, ⟨72, 3, [.d (.agg [(.int .i64 o1.k), (.imm 2 (lenc Rule.pd o1.s)), (.imm 2 (lenc Rule.pd o1.t))])]⟩), (1, ⟨74, 1, [.d (.fn (.func 50))]⟩), (2, ⟨117, 1, [.mp 4]⟩), (3, ⟨118, 1, [.func (.func 79) [.ptr 0 0 0, .ptr 1 0 0, .ptr 2 0 0, .ptr 3 0 0]]⟩), (4, ⟨117, 0, mels Arr3_Int.pd PD.bool (mset (⟨mark1, (IntKind.i64.wrap a1), (IntKind.i64.wrap b1)⟩ : Arr3_Int) true M1)⟩)], [], none⟩) sc ?_
     refine AWp.ret ?_
     cases h; exact rtO
end Go.Pv.Tryd

namespace Go.Pv.Tryd
open Go.Proofs Go.Pv
theorem m_tariff_walker_find_f50_ok (w1 : Walker) (r : ((List Int) × Bool)) (h : m_tariff_walker_find_f50 w1 = some r) : PureFn Tryd.prog G 49 [.d (.agg [(.int .i64 w1.k), (.imm 2 (lenc Rule.pd w1.s)), (.imm 2 (lenc Rule.pd w1.t))]), .d (.fn (.func 50))] (.tuple [.d (.imm 1 (lenc (PD.int .i64) r.1)), .d (.bool r.2)]) := by
 unfold m_tariff_walker_find_f50 at h
 refine pf Tryd.func49 Tryd.ntmps49 ?_
 refine sg fun K k => ?_
 iterate 4 refine oo ?_
 refine AOps.nil (k _ ?_)
 refine sg fun K k => ?_
 refine omk (α := Arr3_Int) (β := Bool) Arr3_Int.pd PD.bool 1002 ?_
 iterate 2 refine oo ?_
 refine AOps.nil (k _ ?_)
 refine sg fun K k => ?_
 refine oo ?_
 refine AOps.nil (k _ ?_)
 refine sg fun K k => ?_
 iterate 2 refine oo ?_
 refine AOps.nil (k _ ?_)
 refine sd mo fun K k => ?_
 iterate 3 refine dd ?_
 obtain ⟨r1, hx_1, h⟩ := bind_some h
 refine dcl (m_tariff_all_ok w1.s _ hx_1) ?_
 iterate 2 refine dd ?_
 obtain ⟨r2, hx_2, h⟩ := bind_some h
 refine dcl (m_tariff_all_ok w1.t _ hx_2) ?_
 refine DOps.bar (by kernel_rfl) ?_
 refine BOps.hard (by kernel_rfl) ?_
 obtain ⟨r3, hx_3, h⟩ := bind_some h
 refine clU [(0, 1000), (1, 1001), (2, 1003), (3, 1004), (4, 1002)] [] (m_tariff_walker_find_1_h_f50_ok 100 w1 [] 0 r1 r2 _ hx_3) ?_
 refine AOps.nil ?_
 refine BOps.draw [] trivial (Nat.le_of_ble_eq_true rfl) ?_
 iterate 4 refine dd ?_
 refine DOps.nil (by kernel_rfl) (k _ ?_)
 refine AWp.ret ?_
 cases h; exact rt
end Go.Pv.Tryd

namespace Go.Pv.Tryd
open Go.Proofs Go.Pv
theorem m_tariff_found_ok (l1 : (List Int)) (ok1 : Bool) (r : ((List Int) × Int)) (h : m_tariff_found l1 ok1 = some r) : PureFn Tryd.prog G 48 [.d (.imm 1 (lenc (PD.int .i64) l1)), .d (.bool ok1)] (.tuple [.d (.imm 1 (lenc (PD.int .i64) r.1)), .d (.int .i64 r.2)]) := by
 unfold m_tariff_found at h
 refine pf Tryd.func48 Tryd.ntmps48 ?_
 refine sg fun K k => ?_
 iterate 2 refine oo ?_
 refine AOps.nil (k _ ?_)
 refine AWp.seq fun _ K_1 => ?_
 refine sg fun K k => ?_
 iterate 2 refine oo ?_
 refine AOps.nil (k _ ?_)
 refine cd h (fun h => ?_) (fun h => ?_)
 ·refine sg fun K k => ?_
  iterate 2 refine oo ?_
  refine AOps.nil (k _ ?_)
  refine AWp.ret ?_
  cases h; exact rt
 ·refine AWp.skip ?_
  refine K_1 _ ?_
  refine sg fun K k => ?_
  iterate 3 refine oo ?_
  refine AOps.nil (k _ ?_)
  refine AWp.ret ?_
  cases h; exact rt
end Go.Pv.Tryd

namespace Go.Pv.Tryd
open Go.Proofs Go.Pv
theorem m_tariff_Gap_ok (k1 : Int) (t1 : (List Rule)) (r : ((List Int) × Int)) (h : m_tariff_Gap k1 t1 = some r) : PureFn Tryd.prog G 21 [.d (.int .i64 k1), .d (.imm 2 (lenc Rule.pd t1))] (.tuple [.d (.imm 1 (lenc (PD.int .i64) r.1)), .d (.int .i64 r.2)]) := by
 unfold m_tariff_Gap at h
 refine pf Tryd.func21 Tryd.ntmps21 ?_
 refine sg fun K k => ?_
 iterate 2 refine oo ?_
 refine AOps.nil (k _ ?_)
 refine AWp.seq fun _ K_1 => ?_
 refine sg fun K k => ?_
 iterate 2 refine oo ?_
 refine ol ?_
 obtain ⟨r1, hx_2, h⟩ := bind_some h
 refine cl (m_tariff_checked_ok k1 [t1] _ hx_2) ?_
 refine oo ?_
 refine AOps.nil (k _ ?_)
 refine sg fun K k => ?_
 iterate 2 refine oo ?_
 refine AOps.nil (k _ ?_)
 refine cd h (fun h => ?_) (fun h => ?_)
 ·refine sg fun K k => ?_
  iterate 3 refine oo ?_
  refine AOps.nil (k _ ?_)
  refine AWp.ret ?_
  cases h; exact rt
 ·refine AWp.skip ?_
  refine K_1 _ ?_
  refine sg fun K k => ?_
  iterate 3 refine oo ?_
  refine AOps.sub (τ := ⟨[(16, .d (.agg [(.int .i64 k1), (.imm 2 (lenc Rule.pd t1)), (.imm 2 (lenc Rule.pd []))]))], [], [], none⟩) sc ?_
  obtain ⟨r2, hx_4, h⟩ := bind_some h
  refine clC (m_tariff_walker_find_f50_ok (⟨k1, t1, []⟩ : Walker) _ hx_4) ?_
  iterate 2 refine oo ?_
  obtain ⟨r3, hx_5, h⟩ := bind_some h
  refine cl (m_tariff_found_ok r2.1 r2.2 _ hx_5) ?_
  iterate 4 refine oo ?_
  refine AOps.nil (k _ ?_)
  refine AWp.ret ?_
  cases h; exact rt
end Go.Pv.Tryd

namespace Go.Pv.Tryd
open Go.Proofs Go.Pv
theorem m_tariff_builder_leaf_h_ok (o1 : Builder) (a1 : Int) (r : (Int × Builder)) (h : m_tariff_builder_leaf_h o1 a1 = some r) : ObjFn Tryd.prog G 88 [.ptr 0 0 0, .d (.int .u32 a1)] [(0, ⟨92, 5, [.agg [.d (.int .i64 o1.k), .d (.imm 2 (lenc Rule.pd o1.rules)), .mp 1, .mp 2, .slc 1003 0 o1.nodes.length]]⟩), (1, ⟨89, 0, mels Arr3_Int.pd (PD.int .i64) o1.known⟩), (2, ⟨90, 0, mels PD.str (PD.int .i64) o1.same⟩), (1003, ⟨37, 3, dl (lenc Node.pd o1.nodes)⟩)] (.d (.int .i64 r.1)) [(0, ⟨92, 5, [.agg [.d (.int .i64 r.2.k), .d (.imm 2 (lenc Rule.pd r.2.rules)), .mp 1, .mp 2, .slc 1003 0 r.2.nodes.length]]⟩), (1, ⟨89, 0, mels Arr3_Int.pd (PD.int .i64) r.2.known⟩), (2, ⟨90, 0, mels PD.str (PD.int .i64) r.2.same⟩), (1003, ⟨37, 3, dl (lenc Node.pd r.2.nodes)⟩)] := by
 unfold m_tariff_builder_leaf_h at h
 refine ObjFn.pf Tryd.func88 Tryd.ntmps88 ?_
 refine sg fun K k => ?_
 refine oo ?_
 refine AOps.nil (k _ ?_)
 refine sg fun K k => ?_
 refine oo ?_
 obtain ⟨r1, hx_1, h⟩ := bind_some h
 refine cl (m_tariff_set_first_ok a1 _ hx_1) ?_
 refine oo ?_
 refine AOps.nil (k _ ?_)
 refine AWp.seq fun _ K_2 => ?_
 refine sg fun K k => ?_
 iterate 2 refine oo ?_
 refine AOps.nil (k _ ?_)
 refine cd h (fun h => ?_) (fun h => ?_)
 ·refine sg fun K k => ?_
  refine oo ?_
  refine AOps.nil (k _ ?_)
  refine AWp.ret ?_
  cases h; exact rtO
 ·refine AWp.skip ?_
  refine K_2 _ ?_
  refine sg fun K k => ?_
  obtain ⟨e1, ⟨f_4, f_5, f_6, f_7⟩, h⟩ := idx_bind h
  iterate 7 refine oo ?_
  refine oo ?_ (by intro K k; simp (disch := omega) only [go_sem, f_6, ↓reduceIte]; exact k)
  iterate 2 refine oo ?_
  refine AOps.nil (k _ ?_)
  refine AWp.ret ?_
  cases h; exact rtO
end Go.Pv.Tryd

namespace Go.Pv.Tryd
open Go.Proofs Go.Pv
theorem m_tariff_merged_ok (ends1 : (List Int)) (to1 : (List Int)) (r : ((List Int) × (List Int))) (h : m_tariff_merged ends1 to1 = some r) : PureFn Tryd.prog G 89 [.d (.imm 1 (lenc (PD.int .i64) ends1)), .d (.imm 1 (lenc (PD.int .i64) to1))] (.tuple [.d (.imm 1 (lenc (PD.int .i64) r.1)), .d (.imm 1 (lenc (PD.int .i64) r.2))]) := by
 unfold m_tariff_merged at h
 refine pf Tryd.func89 Tryd.ntmps89 ?_
 refine sg fun K k => ?_
 iterate 2 refine oo ?_
 refine AOps.nil (k _ ?_)
 refine sg fun K k => ?_
 iterate 2 refine oo ?_
 refine AOps.nil (k _ ?_)
 refine AWp.sub (Sub.void 6 3 1 1000 (by rfl) (by rfl) (by decide) (by decide)) ?_
 simp only [eput, hput, reduceCtorEq, ↓reduceIte, Nat.reduceAdd, Nat.reduceMul, Nat.reduceLT, Nat.reduceLeDiff, Nat.reduceEqDiff, Nat.reduceBEq, Int.reduceToNat]
 refine AWp.sub (Sub.void 7 3 1 1001 (by rfl) (by rfl) (by decide) (by decide)) ?_
 simp only [eput, hput, reduceCtorEq, ↓reduceIte, Nat.reduceAdd, Nat.reduceMul, Nat.reduceLT, Nat.reduceLeDiff, Nat.reduceEqDiff, Nat.reduceBEq, Int.reduceToNat]
 refine jn (α := ((List Int) × (List Int))) [] [] (fun i t => (6, .slc 1000 0 i.1.length) :: (7, .slc 1001 0 i.2.length) :: t) (fun i t => (1000, ⟨3, 1, dl (lenc (PD.int .i64) i.1)⟩) :: (1001, ⟨3, 1, dl (lenc (PD.int .i64) i.2)⟩) :: t) h ?_ ?_
 ·intro _ hj_2
  refine sg fun K k => ?_
  iterate 3 refine oo ?_
  refine AOps.nil (k _ ?_)
  refine AWp.block ?_
  obtain ⟨x_7, hl_4, h2_5⟩ := bind_some hj_2
  refine lp (S := (Int × (List Int) × (List Int))) [0, 11, 12] [] (fun i t => (6, .slc 1000 0 i.2.1.length) :: (7, .slc 1001 0 i.2.2.length) :: (13, .d (.int .i64 i.1)) :: t) (fun i t => (1000, ⟨3, 1, dl (lenc (PD.int .i64) i.2.1)⟩) :: (1001, ⟨3, 1, dl (lenc (PD.int .i64) i.2.2)⟩) :: t) hl_4 ?_ ?_; exact sb; clear hl_4
  rintro ⟨v1, L3, L4⟩ _ hb_6; unfold m_tariff_merged_l1 at hb_6; try dsimp only at hb_6
  try dsimp only
  refine sg fun K k => ?_
  refine oo ?_
  refine AOps.nil (k _ ?_)
  refine AWp.seq fun _ K_9 => ?_
  refine cd hb_6 (fun hb_6 => ?_) (fun hb_6 => ?_)
  ·refine AWp.skip ?_
   refine K_9 _ ?_
   refine jn (α := ((List Int) × (List Int))) [0, 11, 12, 13] [] (fun i t => (6, .slc 1000 0 i.1.length) :: (7, .slc 1001 0 i.2.length) :: t) (fun i t => (1000, ⟨3, 1, dl (lenc (PD.int .i64) i.1)⟩) :: (1001, ⟨3, 1, dl (lenc (PD.int .i64) i.2)⟩) :: t) hb_6 ?_ ?_
   ·intro _ hj_12
    refine AWp.block ?_
    refine sg fun K k => ?_
    obtain ⟨e1, ⟨f_13, f_14, f_15, f_16⟩, hj_12⟩ := idx_bind hj_12
    iterate 2 refine oo ?_
    refine oo ?_ (by intro K k; simp (disch := omega) only [go_sem, f_15, ↓reduceIte]; exact k)
    iterate 2 refine oo ?_
    refine AOps.nil (k _ ?_)
    refine AWp.seq fun _ K_17 => ?_
    refine sg fun K k => ?_
    iterate 3 refine oo ?_
    refine AOps.nil (k _ ?_)
    refine sg fun K k => ?_
    iterate 3 refine oo ?_
    obtain ⟨b1, hc_18, hj_12⟩ := bind_some hj_12
    refine ct 8 [0, 6, 7, 8, 9, 10, 11, 12, 13] [1000, 1001] (fun  t => (30, .d (.bool b1)) :: t) ?_ ?_
    ·rcases bt (decide (0 < (L4.length : Int))) with hg_23 | hg_23
     ·rw [hg_23]
      rw [hg_23, cond_true] at hc_18
      obtain ⟨e2, ⟨f_19, f_20, f_21, f_22⟩, hc_18⟩ := idx_bind hc_18
      try simp only [Int.toNat_natCast] at f_21 f_22
      iterate 4 refine oo ?_
      refine oo ?_ (by intro K k; simp (disch := omega) only [go_sem, f_21, Int.toNat_natCast, ↓reduceIte]; exact k)
      iterate 3 refine oo ?_
      refine AOps.nil ?_
      cases hc_18
      exact sb
     ·rw [hg_23]
      rw [hg_23, cond_false] at hc_18
      iterate 8 refine oo ?_
      refine AOps.nil ?_
      cases hc_18
      exact sb
    refine AOps.nil (k _ ?_)
    refine cd hj_12 (fun hj_12 => ?_) (fun hj_12 => ?_)
    ·refine sg fun K k => ?_
     obtain ⟨e3, ⟨f_25, f_26, f_27, f_28⟩, hj_12⟩ := idx_bind hj_12
     iterate 6 refine oo ?_
     refine oo ?_ (by intro K k; simp (disch := omega) only [go_sem, f_27, ↓reduceIte]; exact k)
     obtain ⟨e4, ⟨f_29, f_30, f_31, f_32⟩, hj_12⟩ := idx_bind hj_12
     try simp only [Int.toNat_natCast] at f_31 f_32
     refine oo ?_
     refine oo ?_ (by intro K k; simp (disch := omega) only [go_sem, f_31, Int.toNat_natCast, ↓reduceIte]; exact k)
     refine AOps.nil (k _ ?_)
     refine AWp.exit ?_
     cases hj_12; exact sb
    ·refine AWp.skip ?_
     refine K_17 _ ?_
     refine AWp.reg ?_
     obtain ⟨e5, ⟨f_33, f_34, f_35, f_36⟩, hj_12⟩ := idx_bind hj_12
     iterate 4 refine oo ?_
     refine oo ?_ (by intro K k; simp (disch := omega) only [go_sem, f_35, ↓reduceIte]; exact k)
     refine ol ?_
     obtain ⟨hg_37, hj_12⟩ := guardO_some hj_12
     iterate 3 refine oo ?_
     refine ol ?_
     obtain ⟨hg_38, hj_12⟩ := guardO_some hj_12
     iterate 3 refine oo ?_
     refine AOps.nil ?_
     cases hj_12; exact sb
   ·rintro ⟨L5, L6⟩ hb_6; dsimp only at hb_6 ⊢
    refine AWp.reg ?_
    iterate 2 refine oo ?_
    refine AOps.nil ?_
    exact ln hb_6 sb
  ·refine AWp.exit ?_
   refine lx hb_6 fun hx => ?_; cases hx; try dsimp only at h2_5
   cases h2_5; exact sb
 ·rintro ⟨L1, L2⟩ h; dsimp only at h ⊢
  refine sg fun K k => ?_
  iterate 4 refine oo ?_
  refine AOps.nil (k _ ?_)
  refine AWp.ret ?_
  cases h; exact rt
end Go.Pv.Tryd

namespace Go.Proofs
open Go.Shelf
def Tryd.laysM171_ren : Go.Shelf.Ren := ⟨fun | 171 => 110 | 243 => 117 | 246 => 130 | 283 => 137 | 284 => 138 | 285 => 139 | 286 => 140 | 129 => 128 | 317 => 142 | 318 => 143 | 319 => 144 | 320 => 145 | 337 => 146 | 338 => 147 | n => n, fun | 3 => 3 | 9 => 9 | 2 => 2 | 4 => 4 | 171 => 180 | 0 => 0 | 53 => 170 | 37 => 52 | 5 => 5 | 173 => 182 | 212 => 188 | 51 => 94 | 20 => 20 | 213 => 189 | 46 => 159 | 232 => 190 | 233 => 191 | n => n, fun | 17 => 0 | 18 => 1 | 19 => 2 | n => n⟩
theorem Tryd.laysM171 : Go.Proofs.LaysM.n171 Tryd.prog Tryd.laysM171_ren := {
  mixed := by kernel_rfl
  f129 := Tryd.func128.trans (congrArg some (by kernel_rfl))
  f171 := Tryd.func110.trans (congrArg some (by kernel_rfl))
  f243 := Tryd.func117.trans (congrArg some (by kernel_rfl))
  f246 := Tryd.func130.trans (congrArg some (by kernel_rfl))
  f283 := Tryd.func137.trans (congrArg some (by kernel_rfl))
  f284 := Tryd.func138.trans (congrArg some (by kernel_rfl))
  f285 := Tryd.func139.trans (congrArg some (by kernel_rfl))
  f286 := Tryd.func140.trans (congrArg some (by kernel_rfl))
  f317 := Tryd.func142.trans (congrArg some (by kernel_rfl))
  f318 := Tryd.func143.trans (congrArg some (by kernel_rfl))
  f319 := Tryd.func144.trans (congrArg some (by kernel_rfl))
  f320 := Tryd.func145.trans (congrArg some (by kernel_rfl))
  f337 := Tryd.func146.trans (congrArg some (by kernel_rfl))
  f338 := Tryd.func147.trans (congrArg some (by kernel_rfl))
  t0 := Tryd.underlying0
  a0 := Tryd.isAgg0
  z0 := Tryd.sizeOf0
  v0 := Tryd.zeroValue0
  t2 := Tryd.underlying2
  a2 := Tryd.isAgg2
  z2 := Tryd.sizeOf2
  v2 := Tryd.zeroValue2
  t3 := Tryd.underlying3
  a3 := Tryd.isAgg3
  z3 := Tryd.sizeOf3
  v3 := Tryd.zeroValue3
  t4 := Tryd.underlying4
  a4 := Tryd.isAgg4
  z4 := Tryd.sizeOf4
  v4 := Tryd.zeroValue4
  t5 := Tryd.underlying5
  a5 := Tryd.isAgg5
  z5 := Tryd.sizeOf5
  v5 := Tryd.zeroValue5
  t9 := Tryd.underlying9
  a9 := Tryd.isAgg9
  z9 := Tryd.sizeOf9
  v9 := Tryd.zeroValue9
  t20 := Tryd.underlying20
  a20 := Tryd.isAgg20
  z20 := Tryd.sizeOf20
  v20 := Tryd.zeroValue20
  t37 := Tryd.underlying52
  a37 := Tryd.isAgg52
  z37 := Tryd.sizeOf52
  v37 := Tryd.zeroValue52
  t46 := Tryd.underlying159
  a46 := Tryd.isAgg159
  z46 := Tryd.sizeOf159
  v46 := Tryd.zeroValue159
  t51 := Tryd.underlying94
  a51 := Tryd.isAgg94
  z51 := Tryd.sizeOf94
  v51 := Tryd.zeroValue94
  t53 := Tryd.underlying170
  a53 := Tryd.isAgg170
  z53 := Tryd.sizeOf170
  v53 := Tryd.zeroValue170
  t171 := Tryd.underlying180
  a171 := Tryd.isAgg180
  z171 := Tryd.sizeOf180
  v171 := Tryd.zeroValue180
  t173 := Tryd.underlying182
  a173 := Tryd.isAgg182
  z173 := Tryd.sizeOf182
  v173 := Tryd.zeroValue182
  t212 := Tryd.underlying188
  a212 := Tryd.isAgg188
  z212 := Tryd.sizeOf188
  v212 := Tryd.zeroValue188
  t213 := Tryd.underlying189
  a213 := Tryd.isAgg189
  z213 := Tryd.sizeOf189
  t232 := Tryd.underlying190
  a232 := Tryd.isAgg190
  z232 := Tryd.sizeOf190
  v232 := Tryd.zeroValue190
  t233 := Tryd.underlying191
  a233 := Tryd.isAgg191
  z233 := Tryd.sizeOf191
  v233 := Tryd.zeroValue191
  g17 := by kernel_rfl
  g18 := by kernel_rfl
  g19 := by kernel_rfl
  i0 := by kernel_rfl
  i2 := by kernel_rfl
  i3 := by kernel_rfl
  i4 := by kernel_rfl
  i5 := by kernel_rfl
  i9 := by kernel_rfl
  i20 := by kernel_rfl
  i37 := by kernel_rfl
  i46 := by kernel_rfl
  i51 := by kernel_rfl
  i53 := by kernel_rfl
  i171 := by kernel_rfl
  i173 := by kernel_rfl
  i212 := by kernel_rfl
  i232 := by kernel_rfl
  i233 := by kernel_rfl
  m17 := by kernel_rfl
  m18 := by kernel_rfl
  m19 := by kernel_rfl }
open Go.RowKit Go.Sort Go.Lib in
theorem Tryd.strconv_Itoa (n : Int) (h0 : -9223372036854775808 ≤ n) (h1 : n ≤ 9223372036854775807) (w : World) (htab : Lib.TabIs Tryd.prog w "internal/strconv.uint64pow10" .u64 Lib.pow10Tab) :
    Calls Tryd.prog 110 #[.int .i64 n] w fun e w' => e = .returned (.string ⟨(Lib.itoa n).toArray⟩) ∧ ∃ k os, w' = grow (w.drewN k) os := Any.strconv_Itoa Tryd.laysM171 n h0 h1 w htab
end Go.Proofs

namespace Go.Pv.Tryd
open Go.Proofs Go.Pv
theorem noEscape_run (w : World) (v : Value) : (callFunc 129 #[v]).run Tryd.prog w = .ok (.value v) w := by
  rw [run_callFunc_extern Tryd.func129 (by kernel_rfl) (by kernel_rfl) (by kernel_rfl) (e := Extern.AbiNoEscape.same) (by kernel_rfl)]
  rfl
theorem info148 : ∃ j, Tryd.prog.info? 148 = some j ∧ j.size = 2 := by
  have h : (Tryd.prog.info? 148).map (·.size) = some 2 := by kernel_rfl
  simpa [Option.map_eq_some_iff] using h
theorem ccheck_new (L : List Int) : ObjFn Tryd.prog G 116 [.ptr 0 0 0] [(0, ⟨148, 2, [.agg [.d .nilptr, .slc 1 0 L.length]]⟩), (1, ⟨5, 1, dl (lenc (PD.int .u8) L)⟩)] (.tuple []) [(0, ⟨148, 2, [.agg [.ptr 0 0 0, .slc 1 0 L.length]]⟩), (1, ⟨5, 1, dl (lenc (PD.int .u8) L)⟩)] := by
  obtain ⟨j, hj, hjs⟩ := info148
  refine ObjFn.pf Tryd.func116 Tryd.ntmps116 ?_
  refine AWp.seq fun _ K_1 => ?_
  refine AWp.reg ?_
  iterate 5 refine oo ?_
  refine AOps.nil ?_
  refine K_1 _ ?_
  refine cdt ?_
  refine AWp.reg ?_
  iterate 2 refine oo ?_
  refine on (fun K' hK' => OpT.toUnsafe (t := 148) (r := 0) rfl (by kernel_rfl) (by kernel_rfl) hj (by omega) (by rfl) (by rfl) (by exact Nat.one_pos) (by decide) (hK' _ ?_))
  refine on (fun K' hK' => OpT.noEscape rfl rfl rfl noEscape_run (by decide) (hK' _ ?_))
  refine on (fun K' hK' => OpT.fromUnsafe (u := 148) (r := 0) rfl (by kernel_rfl) (by kernel_rfl) hj (by rfl) (by rfl) (by exact Nat.one_pos) rfl (by kernel_rfl) (by decide) (hK' _ ?_))
  iterate 3 refine oo ?_
  refine AOps.nil ?_
  exact rtO
theorem ccheck_old (L : List Int) : ObjFn Tryd.prog G 116 [.ptr 0 0 0] [(0, ⟨148, 2, [.agg [.ptr 0 0 0, .slc 1 0 L.length]]⟩), (1, ⟨5, 1, dl (lenc (PD.int .u8) L)⟩)] (.tuple []) [(0, ⟨148, 2, [.agg [.ptr 0 0 0, .slc 1 0 L.length]]⟩), (1, ⟨5, 1, dl (lenc (PD.int .u8) L)⟩)] := by
  obtain ⟨j, hj, hjs⟩ := info148
  refine ObjFn.pf Tryd.func116 Tryd.ntmps116 ?_
  refine AWp.seq fun _ K_1 => ?_
  refine AWp.reg ?_
  iterate 5 refine oo ?_
  refine AOps.nil ?_
  refine K_1 _ ?_
  refine cdf ?_
  refine AWp.seq fun _ K_2 => ?_
  refine AWp.reg ?_
  iterate 5 refine oo ?_
  refine on (fun K' hK' => OpT.neqSame (te := 148) (r := 0) (i := 0) (off := 0) rfl (by kernel_rfl) hj (by rfl) (by rfl) (by decide) (hK' _ ?_))
  refine AOps.nil ?_
  refine K_2 _ ?_
  refine cdf ?_
  refine AWp.skip ?_
  exact rtO
theorem ccheck_ok (b : Bool) (L : List Int) : ObjFn Tryd.prog G 116 [.ptr 0 0 0] [(0, ⟨148, 2, [.agg [optP b 0, .slc 1 0 L.length]]⟩), (1, ⟨5, 1, dl (lenc (PD.int .u8) L)⟩)] (.tuple []) [(0, ⟨148, 2, [.agg [.ptr 0 0 0, .slc 1 0 L.length]]⟩), (1, ⟨5, 1, dl (lenc (PD.int .u8) L)⟩)] := by
  cases b
  · exact ccheck_new L
  · exact ccheck_old L
theorem bWrite_ok (o : StringsBuilder) (s : ByteArray) (r : StringsBuilder) (h : bWrite o s = some r) : ObjFn Tryd.prog G 109 [.ptr 0 0 0, .d (.str s)] [(0, ⟨148, 2, [.agg [optP o.addr 0, .slc 1001 0 o.buf.length]]⟩), (1001, ⟨5, 1, dl (lenc (PD.int .u8) o.buf)⟩)]
    (.tuple [.d (.int .i64 s.size), .d .niliface]) [(0, ⟨148, 2, [.agg [.ptr 0 0 0, .slc 1001 0 r.buf.length]]⟩), (1001, ⟨5, 1, dl (lenc (PD.int .u8) r.buf)⟩)] := by
  unfold bWrite at h
  obtain ⟨hg, h⟩ := guardO_some h
  refine ObjFn.pf Tryd.func109 Tryd.ntmps109 ?_
  refine sg fun K k => ?_
  iterate 2 refine oo ?_
  refine AOps.nil (k _ ?_)
  refine sg fun K k => ?_
  refine oo ?_
  refine clU [(0, 0), (1, 1001)] [] (ccheck_ok o.addr o.buf) ?_
  refine AOps.nil (k _ ?_)
  refine sg fun K k => ?_
  iterate 6 refine oo ?_
  refine on (fun K' hK' => OpT.appendStr (r := 1001) (str := s) (row := ⟨5, 1, dl (lenc (PD.int .u8) o.buf)⟩) rfl ty52 T52_desc (by kernel_rfl) ty5 (by kernel_rfl) (by kernel_rfl) (by kernel_rfl) (by rfl) (by rfl) (by simp only [go_sem]) rfl rfl (by decide) (by rfl) (by omega) (by decide) (hK' _ ?_))
  simp only [go_sem, ↓reduceIte]
  iterate 3 refine oo ?_
  refine AOps.nil (k _ ?_)
  refine sg fun K k => ?_
  iterate 4 refine oo ?_
  refine AOps.nil (k _ ?_)
  refine AWp.ret ?_
  cases h
  have e1 : (o.buf ++ bytesI s).length = o.buf.length + s.size := by rw [List.length_append, bytesI_length]
  dsimp only
  rw [e1]
  exact rtO
theorem bWriteByte_ok (o : StringsBuilder) (c : Int) (r : StringsBuilder) (h : bWriteByte o c = some r) : ObjFn Tryd.prog G 111 [.ptr 0 0 0, .d (.int .u8 c)] [(0, ⟨148, 2, [.agg [optP o.addr 0, .slc 1001 0 o.buf.length]]⟩), (1001, ⟨5, 1, dl (lenc (PD.int .u8) o.buf)⟩)]
    (.d .niliface) [(0, ⟨148, 2, [.agg [.ptr 0 0 0, .slc 1001 0 r.buf.length]]⟩), (1001, ⟨5, 1, dl (lenc (PD.int .u8) r.buf)⟩)] := by
  unfold bWriteByte at h
  obtain ⟨hg, h⟩ := guardO_some h
  refine ObjFn.pf Tryd.func111 Tryd.ntmps111 ?_
  refine sg fun K k => ?_
  iterate 1 refine oo ?_
  refine AOps.nil (k _ ?_)
  refine sg fun K k => ?_
  refine oo ?_
  refine clU [(0, 0), (1, 1001)] [] (ccheck_ok o.addr o.buf) ?_
  refine AOps.nil (k _ ?_)
  refine sg fun K k => ?_
  iterate 6 refine oo ?_
  refine ol ?_
  iterate 4 refine oo ?_
  refine AOps.nil (k _ ?_)
  refine sg fun K k => ?_
  iterate 1 refine oo ?_
  refine AOps.nil (k _ ?_)
  refine AWp.ret ?_
  cases h
  exact rtO
theorem bString_ok (o : StringsBuilder) (r : ByteArray) (h : bString o = some r) (q : PV) (hq : clean q) (hq2 : refsIn [(0, (⟨148, 2, [.agg [q, .slc 1 0 o.buf.length]]⟩ : Row)), (1, (⟨5, 1, dl (lenc (PD.int .u8) o.buf)⟩ : Row))] q) : ObjFn Tryd.prog G 112 [.ptr 0 0 0] [(0, ⟨148, 2, [.agg [q, .slc 1 0 o.buf.length]]⟩), (1, ⟨5, 1, dl (lenc (PD.int .u8) o.buf)⟩)]
    (.d (.str r)) [(0, ⟨148, 2, [.agg [q, .slc 1 0 o.buf.length]]⟩), (1, ⟨5, 1, dl (lenc (PD.int .u8) o.buf)⟩)] := by
  unfold bString at h
  obtain ⟨⟨hg, hg2⟩, h⟩ := guardO_some h
  cases h
  have hl0 : o.buf.length ≠ 0 := by simpa using hg2
  refine ObjFn.pf Tryd.func112 Tryd.ntmps112 (hrh := ⟨⟨⟨hq2, ⟨rfl, trivial⟩⟩, trivial⟩, row_refs _ _, trivial⟩) ?_
  refine sg fun K k => ?_
  refine oo ?_
  refine AOps.nil (k _ ?_)
  refine sd mo fun K k => ?_
  iterate 4 refine dd ?_
  refine dap rfl (by intro K k; refine OpX.sliceData (r := 1) (n := o.buf.length) rfl rfl rfl (by rfl) hl0 (by decide) (by rw [exE_nil]; trivial) ?_; exact k) ?_
  simp only [go_sem, ↓reduceIte]
  iterate 5 refine dd ?_
  refine dap rfl (by intro K k; refine OpX.mkStr (r := 1) (s := ofI o.buf) rfl rfl rfl rfl (by kernel_rfl) (by kernel_rfl) (by rfl) (by rw [ofI_size]; rfl) (by rw [bytesI_ofI hg]; rfl) (by rw [ofI_size]; exact hl0) (by decide) (by rw [exE_nil]; trivial) ?_; exact k) ?_
  simp only [go_sem, ↓reduceIte]
  refine dd ?_
  refine DOps.nil (by kernel_rfl) (k _ ?_)
  refine AWp.ret ?_
  exact rtO
theorem bString_opt (o : StringsBuilder) (r : ByteArray) (h : bString o = some r) : ObjFn Tryd.prog G 112 [.ptr 0 0 0] [(0, ⟨148, 2, [.agg [optP o.addr 0, .slc 1 0 o.buf.length]]⟩), (1, ⟨5, 1, dl (lenc (PD.int .u8) o.buf)⟩)]
    (.d (.str r)) [(0, ⟨148, 2, [.agg [optP o.addr 0, .slc 1 0 o.buf.length]]⟩), (1, ⟨5, 1, dl (lenc (PD.int .u8) o.buf)⟩)] :=
  bString_ok o r h _ (by rw [optP_clean]; trivial) (by rw [optP_refs rfl]; trivial)
theorem tab_of {B : Base Tryd.prog} {w : World} {φ : Nm} {H : Heap} {g : Gh} (hs : Sit G B w φ H g) : Lib.TabIs Tryd.prog w "internal/strconv.uint64pow10" .u64 Lib.pow10Tab := by
  obtain ⟨c, e, f, v, h1, h2, h3, h4, h5, h6⟩ := hs.glob tabG (.agg (Lib.pow10Tab.map (PD.int .u64))) (by simp [G])
  have hg : Tryd.prog.globalNamed "internal/strconv.uint64pow10" = some tabG := by kernel_rfl
  unfold Lib.TabIs World.var?
  rw [hg, Option.bind_some, h1]
  simp only [Option.some.injEq]
  cases h3 with
  | @agg vs _ hsz h hf =>
    have hl : vs.size = Lib.pow10Tab.length := by simpa using hsz
    have e0 : (Value.agg vs).cells = vs := rfl
    rw [e0] at h4 h5
    refine Array.ext (by simp; omega) fun j hj1 hj2 => ?_
    have hj : j < Lib.pow10Tab.length := by omega
    have hj' : j < vs.size := by omega
    have a1 := h j (by simpa using hj)
    simp only [List.getElem_map] at a1
    have a2 := repD_int a1
    have a3 := (h5 j hj').1
    rw [a2, Array.getElem?_eq_getElem hj1] at a3
    simp only [Option.some.injEq] at a3
    rw [a3]; simp
theorem itoa_ok (n : Int) (r : ByteArray) (h : itoaO n = some r) : PureFn Tryd.prog G 110 [.d (.int .i64 n)] (.d (.str r)) := by
  unfold itoaO at h
  obtain ⟨⟨hg1, hg2⟩, h⟩ := guardO_some h
  cases h
  intro B φ vs h0 h1 h2 h3
  obtain ⟨v, rfl⟩ : ∃ v, vs = [v] := by
    match vs, h1 with
    | [v], _ => exact ⟨v, rfl⟩
  have hv : RepV B.w0 B.X φ [] v (.d (.int .i64 n)) := h2 0 (by simp)
  obtain rfl := repV_int hv
  have hc := Tryd.strconv_Itoa n hg1 hg2 B.w0 (tab_of h3)
  refine (callsIn_wide.2 hc).mono ?_
  rintro e w' ⟨rfl, k, os, rfl⟩
  refine ⟨_, _, [], none, φ, rfl, ⟨rfl, rfl⟩, .d (.str _), ?_⟩
  exact Sit.more h0 h3 (by simp [Sort.grow]) (fun b hb => heap_grow (B.w0.drewN k) os hb) rfl rfl rfl
end Go.Pv.Tryd

namespace Go.Pv.Tryd
open Go.Proofs Go.Pv
set_option maxHeartbeats 4000000 in
theorem m_tariff_builder_node_h_ok (o1 : Builder) (x1 : Node) (r : (Int × Builder)) (h : m_tariff_builder_node_h o1 x1 = some r) : ObjFn Tryd.prog G 90 [.ptr 0 0 0, .d (.agg [(.int .i64 x1.Mark), (.imm 1 (lenc (PD.int .i64) x1.Cuts)), (.imm 1 (lenc (PD.int .i64) x1.To))])] [(0, ⟨92, 5, [.agg [.d (.int .i64 o1.k), .d (.imm 2 (lenc Rule.pd o1.rules)), .mp 1, .mp 2, .slc 1003 0 o1.nodes.length]]⟩), (1, ⟨89, 0, mels Arr3_Int.pd (PD.int .i64) o1.known⟩), (2, ⟨90, 0, mels PD.str (PD.int .i64) o1.same⟩), (1003, ⟨37, 3, dl (lenc Node.pd o1.nodes)⟩)] (.d (.int .i64 r.1)) [(0, ⟨92, 5, [.agg [.d (.int .i64 r.2.k), .d (.imm 2 (lenc Rule.pd r.2.rules)), .mp 1, .mp 2, .slc 1003 0 r.2.nodes.length]]⟩), (1, ⟨89, 0, mels Arr3_Int.pd (PD.int .i64) r.2.known⟩), (2, ⟨90, 0, mels PD.str (PD.int .i64) r.2.same⟩), (1003, ⟨37, 3, dl (lenc Node.pd r.2.nodes)⟩)] := by
 unfold m_tariff_builder_node_h at h
 refine ObjFn.pf Tryd.func90 Tryd.ntmps90 ?_
 refine sg fun K k => ?_
 iterate 2 refine oo ?_
 refine AOps.nil (k _ ?_)
 refine sg fun K k => ?_
 refine oo ?_
 refine AOps.sub (Sub.voidCell 1005 1 5 1 1006 (x := ⟨148, 2, [.d (.agg [.nilptr, .nilslice])]⟩) (p := .d (.agg [.nilptr, .nilslice])) (cs := [.d .nilptr, .d .nilslice]) rfl (Nat.le_of_ble_eq_true rfl) rfl rfl rfl rfl rfl (by decide) (by decide)) ?_
 simp only [hput, List.set_cons_succ, List.set_cons_zero, reduceCtorEq, ↓reduceIte, Nat.reduceAdd, Nat.reduceMul, Nat.reduceLT, Nat.reduceLeDiff, Nat.reduceEqDiff, Nat.reduceBEq, Int.reduceToNat]
 refine AOps.nil (k _ ?_)
 refine jn (α := (Bool × (List Int))) [0, 3] [0, 1, 2, 1003, 1004] (fun i t => (5, .ptr 1005 0 0) :: t) (fun i t => (1005, ⟨148, 2, [.agg [optP i.1 1005, .slc 1006 0 i.2.length]]⟩) :: (1006, ⟨5, 1, dl (lenc (PD.int .u8) i.2)⟩) :: t) h ?_ ?_
 ·intro _ hj_2
  refine sg fun K k => ?_
  iterate 2 refine oo ?_
  refine ol ?_
  iterate 4 refine oo ?_
  refine ol ?_
  refine AOps.sub (τ := ⟨[(0, .ptr 0 0 0), (3, .ptr 1004 0 0), (5, .ptr 1005 0 0), (19, .d (.imm 1 (lenc (slenc 1 (PD.int .i64)) [[x1.Mark], x1.Cuts, x1.To])))], [(0, ⟨92, 5, [.agg [.d (.int .i64 o1.k), .d (.imm 2 (lenc Rule.pd o1.rules)), .mp 1, .mp 2, .slc 1003 0 o1.nodes.length]]⟩), (1, ⟨89, 0, mels Arr3_Int.pd (PD.int .i64) o1.known⟩), (2, ⟨90, 0, mels PD.str (PD.int .i64) o1.same⟩), (1003, ⟨37, 3, dl (lenc Node.pd o1.nodes)⟩), (1004, ⟨37, 3, [.d (.agg [(.int .i64 x1.Mark), (.imm 1 (lenc (PD.int .i64) x1.Cuts)), (.imm 1 (lenc (PD.int .i64) x1.To))])]⟩), (1005, ⟨148, 2, [.agg [.d .nilptr, .slc 1006 0 0]]⟩), (1006, ⟨5, 1, dl (lenc (PD.int .u8) [])⟩)], [], none⟩) sb ?_
  iterate 2 refine oo ?_
  refine AOps.nil (k _ ?_)
  refine AWp.block ?_
  obtain ⟨x_7, hl_4, h2_5⟩ := bind_some hj_2
  refine lp (S := (Int × Bool × (List Int))) [0, 3, 19, 20] [0, 1, 2, 1003, 1004] (fun i t => (5, .ptr 1005 0 0) :: (21, .d (.int .i64 i.1)) :: t) (fun i t => (1005, ⟨148, 2, [.agg [optP i.2.1 1005, .slc 1006 0 i.2.2.length]]⟩) :: (1006, ⟨5, 1, dl (lenc (PD.int .u8) i.2.2)⟩) :: t) hl_4 ?_ ?_; exact sb; clear hl_4
  rintro ⟨v1, c2, L2⟩ _ hb_6; unfold m_tariff_builder_node_h_l1 at hb_6; try dsimp only at hb_6
  try dsimp only
  refine sg fun K k => ?_
  refine oo ?_
  refine AOps.nil (k _ ?_)
  refine AWp.seq fun _ K_9 => ?_
  refine cd hb_6 (fun hb_6 => ?_) (fun hb_6 => ?_)
  ·refine AWp.skip ?_
   refine K_9 _ ?_
   refine jn (α := (Bool × (List Int))) [0, 3, 19, 20, 21] [0, 1, 2, 1003, 1004] (fun i t => (5, .ptr 1005 0 0) :: t) (fun i t => (1005, ⟨148, 2, [.agg [optP i.1 1005, .slc 1006 0 i.2.length]]⟩) :: (1006, ⟨5, 1, dl (lenc (PD.int .u8) i.2)⟩) :: t) hb_6 ?_ ?_
   ·intro _ hj_12
    refine AWp.block ?_
    refine sg fun K k => ?_
    obtain ⟨e1, ⟨f_13, f_14, f_15, f_16⟩, hj_12⟩ := idx_bind hj_12
    try simp only [List.length_append, List.length_set, List.length_replicate, List.length_cons, List.length_nil] at f_14 f_16
    refine oo ?_
    refine oo ?_ (by intro K k; simp (disch := omega) only [go_sem, f_15, ↓reduceIte]; exact k)
    refine oo ?_
    refine AOps.nil (k _ ?_)
    refine jn (α := (Bool × (List Int))) [0, 3, 19, 20, 21] [0, 1, 2, 1003, 1004] (fun i t => (5, .ptr 1005 0 0) :: t) (fun i t => (1005, ⟨148, 2, [.agg [optP i.1 1005, .slc 1006 0 i.2.length]]⟩) :: (1006, ⟨5, 1, dl (lenc (PD.int .u8) i.2)⟩) :: t) hj_12 ?_ ?_
    ·intro _ hj_18
     refine sg fun K k => ?_
     iterate 3 refine oo ?_
     refine AOps.nil (k _ ?_)
     refine AWp.block ?_
     obtain ⟨x_23, hl_20, h2_21⟩ := bind_some hj_18
     refine lp (S := (Int × Bool × (List Int))) [0, 3, 19, 20, 21, 25, 26] [0, 1, 2, 1003, 1004] (fun i t => (5, .ptr 1005 0 0) :: (27, .d (.int .i64 i.1)) :: t) (fun i t => (1005, ⟨148, 2, [.agg [optP i.2.1 1005, .slc 1006 0 i.2.2.length]]⟩) :: (1006, ⟨5, 1, dl (lenc (PD.int .u8) i.2.2)⟩) :: t) hl_20 ?_ ?_; exact sb; clear hl_20
     rintro ⟨v2, c5, L5⟩ _ hb_22; unfold m_tariff_builder_node_h_l2 at hb_22; try dsimp only at hb_22
     try dsimp only
     refine sg fun K k => ?_
     refine oo ?_
     refine AOps.nil (k _ ?_)
     refine AWp.seq fun _ K_25 => ?_
     refine cd hb_22 (fun hb_22 => ?_) (fun hb_22 => ?_)
     ·refine AWp.skip ?_
      refine K_25 _ ?_
      refine AWp.seq fun _ K_27 => ?_
      refine AWp.block ?_
      refine sg fun K k => ?_
      obtain ⟨e2, ⟨f_28, f_29, f_30, f_31⟩, hb_22⟩ := idx_bind hb_22
      refine oo ?_
      refine oo ?_ (by intro K k; simp (disch := omega) only [go_sem, f_30, ↓reduceIte]; exact k)
      refine oo ?_
      refine AOps.nil (k _ ?_)
      refine AWp.reg ?_
      refine oo ?_
      obtain ⟨r1, hx_32, hb_22⟩ := bind_some hb_22
      refine cl (itoa_ok e2 _ hx_32) ?_
      obtain ⟨hg_33, hb_22⟩ := guardO_some hb_22
      refine oo ?_
      obtain ⟨r2, hx_34, hb_22⟩ := bind_some hb_22
      refine clU [(0, 1005), (1001, 1006)] [1006] (bWrite_ok (⟨c5, L5⟩ : StringsBuilder) (r1 ++ (⟨#[32]⟩ : ByteArray)) _ hx_34) ?_
      refine AOps.nil ?_
      refine K_27 _ ?_
      refine AWp.reg ?_
      iterate 2 refine oo ?_
      refine AOps.nil ?_
      exact ln hb_22 sb
     ·refine AWp.exit ?_
      refine lx hb_22 fun hx => ?_; cases hx; try dsimp only at h2_21
      cases h2_21; exact sb
    ·rintro ⟨c4, L4⟩ hj_12; dsimp only at hj_12 ⊢
     refine AWp.reg ?_
     obtain ⟨r3, hx_35, hj_12⟩ := bind_some hj_12
     refine clU [(0, 1005), (1001, 1006)] [1006] (bWriteByte_ok (⟨c4, L4⟩ : StringsBuilder) 124 _ hx_35) ?_
     refine AOps.nil ?_
     cases hj_12; exact sb
   ·rintro ⟨c3, L3⟩ hb_6; dsimp only at hb_6 ⊢
    refine AWp.reg ?_
    iterate 2 refine oo ?_
    refine AOps.nil ?_
    exact ln hb_6 sb
  ·refine AWp.exit ?_
   refine lx hb_6 fun hx => ?_; cases hx; try dsimp only at h2_5
   cases h2_5; exact sb
 ·rintro ⟨c1, L1⟩ h; dsimp only at h ⊢
  refine sd mo fun K k => ?_
  iterate 4 refine dd ?_
  obtain ⟨r4, hx_36, h⟩ := bind_some h
  refine dclR [(0, 1005), (1, 1006)] (bString_opt (⟨c1, L1⟩ : StringsBuilder) _ hx_36) ?_
  refine DOps.bar (by kernel_rfl) ?_
  refine BOps.hard (by kernel_rfl) ?_
  refine oml (k := r4) (L := o1.same) (v0 := 0) (encV := (PD.int .i64)) KE9 MU90 ty3 MZ3 (fun _ _ => .int _ _) ?_
  refine AOps.nil ?_
  refine BOps.draw [] trivial (Nat.le_of_ble_eq_true rfl) ?_
  iterate 5 refine dd ?_
  refine DOps.nil (by kernel_rfl) (k _ ?_)
  refine jn (α := (Int × (List (ByteArray × Int)) × (List Node))) [] [1] (fun i t => (10, .d (.int .i64 i.1)) :: t) (fun i t => (0, ⟨92, 5, [.agg [.d (.int .i64 o1.k), .d (.imm 2 (lenc Rule.pd o1.rules)), .mp 1, .mp 2, .slc 1003 0 i.2.2.length]]⟩) :: (2, ⟨90, 0, mels PD.str (PD.int .i64) i.2.1⟩) :: (1003, ⟨37, 3, dl (lenc Node.pd i.2.2)⟩) :: t) h ?_ ?_
  ·intro _ hj_38
   refine sg fun K k => ?_
   iterate 2 refine oo ?_
   refine AOps.nil (k _ ?_)
   refine cd hj_38 (fun hj_38 => ?_) (fun hj_38 => ?_)
   ·refine sg fun K k => ?_
    iterate 6 refine oo ?_
    refine AOps.nil (k _ ?_)
    refine sd mo fun K k => ?_
    iterate 4 refine dd ?_
    obtain ⟨r5, hx_40, hj_38⟩ := bind_some hj_38
    refine dclR [(0, 1005), (1, 1006)] (bString_opt (⟨c1, L1⟩ : StringsBuilder) _ hx_40) ?_
    refine dd ?_
    refine DOps.stop (by kernel_rfl) ?_
    refine oms (k := r5) (L := o1.same) (v := (o1.nodes.length : Int)) (encV := (PD.int .i64)) KE9 MU90 ?_
    refine AOps.nil (k _ ?_)
    refine AWp.sub (τ := ⟨[(0, .ptr 0 0 0), (3, .ptr 1004 0 0), (5, .ptr 1005 0 0), (10, .d (.int .i64 (o1.nodes.length : Int))), (11, .d (.bool ((mget r4 o1.same).isSome))), (38, .tuple [.d (.int .i64 ((mget r4 o1.same).getD 0)), .d (.bool ((mget r4 o1.same).isSome))]), (39, .ptr 0 0 0), (40, .ptr 0 0 0), (41, .ptr 0 0 3), (42, .mp 2), (43, .d (.str r4)), (44, .tuple [.d (.int .i64 ((mget r4 o1.same).getD 0)), .d (.bool ((mget r4 o1.same).isSome))]), (45, .d (.int .i64 ((mget r4 o1.same).getD 0))), (46, .d (.bool ((mget r4 o1.same).isSome))), (47, .d (.bool ((mget r4 o1.same).isSome))), (48, .d (.bool (!((mget r4 o1.same).isSome)))), (49, .ptr 0 0 0), (50, .ptr 0 0 0), (51, .ptr 0 0 4), (53, .d (.int .i64 (o1.nodes.length : Int))), (54, .ptr 0 0 0), (55, .ptr 0 0 0), (56, .ptr 0 0 3), (57, .mp 2), (58, .d (.str r5)), (59, .d (.int .i64 (o1.nodes.length : Int)))], [(0, ⟨92, 5, [.agg [.d (.int .i64 o1.k), .d (.imm 2 (lenc Rule.pd o1.rules)), .mp 1, .mp 2, .slc 1003 0 o1.nodes.length]]⟩), (1, ⟨89, 0, mels Arr3_Int.pd (PD.int .i64) o1.known⟩), (2, ⟨90, 0, mels PD.str (PD.int .i64) (mset r5 (o1.nodes.length : Int) o1.same)⟩), (1003, ⟨37, 3, dl (lenc Node.pd o1.nodes)⟩), (1004, ⟨37, 3, [.d (.agg [(.int .i64 x1.Mark), (.imm 1 (lenc (PD.int .i64) x1.Cuts)), (.imm 1 (lenc (PD.int .i64) x1.To))])]⟩), (1005, ⟨148, 2, [.agg [optP c1 1005, .slc 1006 0 L1.length]]⟩), (1006, ⟨5, 1, dl (lenc (PD.int .u8) L1)⟩)], [], none⟩) sb ?_
    refine drX mo [(1003, [64, 67, 1000000])] ?_
    iterate 6 (refine dd ?_ (by intro K k; simp (disch := omega) only [go_sem, true_or, or_true, and_self, true_and, and_true, ↓reduceIte]; exact k))
    refine ddl ?_ (by intro K k; simp (disch := omega) only [go_sem, true_or, or_true, and_self, true_and, and_true, ↓reduceIte]; exact k)
    obtain ⟨hg_41, hj_38⟩ := guardO_some hj_38
    refine dapH [64, 67, 1000000] [(0, ⟨92, 5, [.agg [.d (.int .i64 o1.k), .d (.imm 2 (lenc Rule.pd o1.rules)), .mp 1, .mp 2, .slc 1003 0 o1.nodes.length]]⟩)] (dl (lenc Node.pd [x1])) se32 ?_
    iterate 3 (refine dd ?_ (by intro K k; simp (disch := omega) only [go_sem, true_or, or_true, and_self, true_and, and_true, ↓reduceIte]; exact k))
    refine DOps.nil (by kernel_rfl) ?_
    cases hj_38; exact sb
   ·refine AWp.skip ?_
    cases hj_38; exact sb
  ·rintro ⟨n1, M1, L6⟩ h; dsimp only at h ⊢
   refine sg fun K k => ?_
   iterate 2 refine oo ?_
   refine AOps.nil (k _ ?_)
   refine AWp.ret ?_
   cases h; exact rtO
end Go.Pv.Tryd

namespace Go.Pv.Tryd
open Go.Proofs Go.Pv
set_option maxHeartbeats 4000000 in
theorem m_tariff_builder_at_h_ok (n : Nat) : ∀ (o1 : Builder) (mark1 : Int) (a1 : Int) (r : (Int × Builder)) (h : m_tariff_builder_at_h n o1 mark1 a1 = some r), ObjFn Tryd.prog G 57 [.ptr 0 0 0, .d (.int .i64 mark1), .d (.int .u32 a1)] [(0, ⟨92, 5, [.agg [.d (.int .i64 o1.k), .d (.imm 2 (lenc Rule.pd o1.rules)), .mp 1, .mp 2, .slc 1003 0 o1.nodes.length]]⟩), (1, ⟨89, 0, mels Arr3_Int.pd (PD.int .i64) o1.known⟩), (2, ⟨90, 0, mels PD.str (PD.int .i64) o1.same⟩), (1003, ⟨37, 3, dl (lenc Node.pd o1.nodes)⟩)] (.d (.int .i64 r.1)) [(0, ⟨92, 5, [.agg [.d (.int .i64 r.2.k), .d (.imm 2 (lenc Rule.pd r.2.rules)), .mp 1, .mp 2, .slc 1003 0 r.2.nodes.length]]⟩), (1, ⟨89, 0, mels Arr3_Int.pd (PD.int .i64) r.2.known⟩), (2, ⟨90, 0, mels PD.str (PD.int .i64) r.2.same⟩), (1003, ⟨37, 3, dl (lenc Node.pd r.2.nodes)⟩)] := by
 induction n with
 | zero => intro o1 mark1 a1 r h; cases h
 | succ n ih =>
  intro o1 mark1 a1 r h
  replace h : m_tariff_builder_at_h_b (m_tariff_builder_at_h n) o1 mark1 a1 = some r := h
  unfold m_tariff_builder_at_h_b at h
  refine ObjFn.pf Tryd.func57 Tryd.ntmps57 ?_
  refine sg fun K k => ?_
  refine oo ?_
  refine AOps.nil (k _ ?_)
  refine AWp.seq fun _ K_1 => ?_
  refine sg fun K k => ?_
  iterate 6 refine oo ?_
  refine AOps.nil (k _ ?_)
  refine cd h (fun h => ?_) (fun h => ?_)
  ·refine sg fun K k => ?_
   iterate 2 refine oo ?_
   obtain ⟨r1, hx_3, h⟩ := bind_some h
   refine clU [(0, 0), (1, 1), (2, 2), (1003, 1003)] [1003] (m_tariff_builder_leaf_h_ok o1 a1 _ hx_3) ?_
   refine oo ?_
   refine AOps.nil (k _ ?_)
   refine AWp.ret ?_
   cases h; exact rtO
  ·refine AWp.skip ?_
   refine K_1 _ ?_
   refine sg fun K k => ?_
   iterate 6 refine oo ?_
   refine AOps.nil (k _ ?_)
   refine AWp.seq fun _ K_4 => ?_
   refine sd mo fun K k => ?_
   iterate 5 refine dd ?_
   refine DOps.bar (by kernel_rfl) ?_
   refine BOps.hard (by kernel_rfl) ?_
   refine oml (k := (⟨mark1, (IntKind.i64.wrap a1), 0⟩ : Arr3_Int)) (L := o1.known) (v0 := 0) (encV := (PD.int .i64)) KE121 MU89 ty3 MZ3 (fun _ _ => .int _ _) ?_
   refine AOps.nil ?_
   refine BOps.draw [] trivial (Nat.le_of_ble_eq_true rfl) ?_
   iterate 5 refine dd ?_
   refine DOps.nil (by kernel_rfl) (k _ ?_)
   refine sg fun K k => ?_
   refine oo ?_
   refine AOps.nil (k _ ?_)
   refine cd h (fun h => ?_) (fun h => ?_)
   ·refine sg fun K k => ?_
    iterate 2 refine oo ?_
    refine AOps.nil (k _ ?_)
    refine AWp.ret ?_
    cases h; exact rtO
   ·refine AWp.skip ?_
    refine K_4 _ ?_
    refine sg fun K k => ?_
    iterate 5 refine oo ?_
    refine ol ?_
    obtain ⟨r2, hx_6, h⟩ := bind_some h
    refine cl (m_tariff_cuts_ok mark1 [o1.rules] _ hx_6) ?_
    refine oo ?_
    refine AOps.nil (k _ ?_)
    refine sg fun K k => ?_
    refine oo ?_
    refine AOps.nil (k _ ?_)
    refine AWp.sub (Sub.void 11 3 1 1005 (by rfl) (by rfl) (by decide) (by decide)) ?_
    simp only [eput, hput, reduceCtorEq, ↓reduceIte, Nat.reduceAdd, Nat.reduceMul, Nat.reduceLT, Nat.reduceLeDiff, Nat.reduceEqDiff, Nat.reduceBEq, Int.reduceToNat]
    refine sg fun K k => ?_
    refine oo ?_
    refine AOps.nil (k _ ?_)
    refine jn (α := (Int × (List Rule) × (List (Arr3_Int × Int)) × (List (ByteArray × Int)) × (List Node) × (List Int))) [1, 7, 10] [1004] (fun i t => (0, .ptr 0 0 0) :: (11, .slc 1005 0 i.2.2.2.2.2.length) :: t) (fun i t => (0, ⟨92, 5, [.agg [.d (.int .i64 i.1), .d (.imm 2 (lenc Rule.pd i.2.1)), .mp 1, .mp 2, .slc 1003 0 i.2.2.2.2.1.length]]⟩) :: (1, ⟨89, 0, mels Arr3_Int.pd (PD.int .i64) i.2.2.1⟩) :: (2, ⟨90, 0, mels PD.str (PD.int .i64) i.2.2.2.1⟩) :: (1003, ⟨37, 3, dl (lenc Node.pd i.2.2.2.2.1)⟩) :: (1005, ⟨3, 1, dl (lenc (PD.int .i64) i.2.2.2.2.2)⟩) :: t) h ?_ ?_
    ·intro _ hj_8
     refine sg fun K k => ?_
     iterate 3 refine oo ?_
     refine AOps.nil (k _ ?_)
     refine AWp.block ?_
     obtain ⟨x_13, hl_10, h2_11⟩ := bind_some hj_8
     refine lp (S := (Int × Int × Int × (List Rule) × (List (Arr3_Int × Int)) × (List (ByteArray × Int)) × (List Node) × (List Int))) [1, 2, 7, 10, 49, 50] [1004] (fun i t => (0, .ptr 0 0 0) :: (11, .slc 1005 0 i.2.2.2.2.2.2.2.length) :: (12, .d (.int .i64 i.1)) :: (51, .d (.int .i64 i.2.1)) :: t) (fun i t => (0, ⟨92, 5, [.agg [.d (.int .i64 i.2.2.1), .d (.imm 2 (lenc Rule.pd i.2.2.2.1)), .mp 1, .mp 2, .slc 1003 0 i.2.2.2.2.2.2.1.length]]⟩) :: (1, ⟨89, 0, mels Arr3_Int.pd (PD.int .i64) i.2.2.2.2.1⟩) :: (2, ⟨90, 0, mels PD.str (PD.int .i64) i.2.2.2.2.2.1⟩) :: (1003, ⟨37, 3, dl (lenc Node.pd i.2.2.2.2.2.2.1)⟩) :: (1005, ⟨3, 1, dl (lenc (PD.int .i64) i.2.2.2.2.2.2.2)⟩) :: t) hl_10 ?_ ?_; exact sb; clear hl_10
     rintro ⟨from1, v1, c3, c4, M3, M4, L3, L4⟩ _ hb_12; unfold m_tariff_builder_at_h_l1 at hb_12; try dsimp only at hb_12
     try dsimp only
     refine sg fun K k => ?_
     refine oo ?_
     refine AOps.nil (k _ ?_)
     refine AWp.seq fun _ K_15 => ?_
     refine cd hb_12 (fun hb_12 => ?_) (fun hb_12 => ?_)
     ·refine AWp.skip ?_
      refine K_15 _ ?_
      refine AWp.seq fun _ K_17 => ?_
      refine AWp.block ?_
      refine sg fun K k => ?_
      obtain ⟨e1, ⟨f_18, f_19, f_20, f_21⟩, hb_12⟩ := idx_bind hb_12
      refine oo ?_
      refine oo ?_ (by intro K k; simp (disch := omega) only [go_sem, f_20, ↓reduceIte]; exact k)
      refine oo ?_
      refine AOps.nil (k _ ?_)
      refine sg fun K k => ?_
      iterate 11 refine oo ?_
      obtain ⟨r3, hx_22, hb_12⟩ := bind_some hb_12
      refine cl (m_tariff_fits_ok c4 mark1 from1 _ hx_22) ?_
      refine oo ?_
      obtain ⟨r4, hx_23, hb_12⟩ := bind_some hb_12
      refine clU [(0, 0), (1, 1), (2, 2), (1003, 1003)] [1003] (ih (⟨c3, c4, M3, M4, L3⟩ : Builder) (IntKind.i64.wrap (mark1 + 1)) (IntKind.u32.wrap ↑(BitVec.ofInt IntKind.u32.bits a1 &&& BitVec.ofInt IntKind.u32.bits r3).toNat) _ hx_23) ?_
      refine ol ?_
      obtain ⟨hg_24, hb_12⟩ := guardO_some hb_12
      iterate 2 refine oo ?_
      refine AOps.nil (k _ ?_)
      refine AWp.reg ?_
      iterate 2 refine oo ?_
      refine AOps.nil ?_
      refine K_17 _ ?_
      refine AWp.reg ?_
      iterate 2 refine oo ?_
      refine AOps.nil ?_
      exact ln hb_12 sb
     ·refine AWp.exit ?_
      refine lx hb_12 fun hx => ?_; cases hx; try dsimp only at h2_11
      cases h2_11; exact sb
    ·rintro ⟨c1, c2, M1, M2, L1, L2⟩ h; dsimp only at h ⊢
     refine sg fun K k => ?_
     iterate 2 refine oo ?_
     refine AOps.sub (τ := ⟨[(0, .ptr 0 0 0), (1, .d (.int .i64 mark1)), (7, .ptr 1004 0 0), (74, .d (.imm 1 (lenc (PD.int .i64) r2))), (75, .d (.imm 1 (lenc (PD.int .i64) L2)))], [(0, ⟨92, 5, [.agg [.d (.int .i64 c1), .d (.imm 2 (lenc Rule.pd c2)), .mp 1, .mp 2, .slc 1003 0 L1.length]]⟩), (1, ⟨89, 0, mels Arr3_Int.pd (PD.int .i64) M1⟩), (2, ⟨90, 0, mels PD.str (PD.int .i64) M2⟩), (1003, ⟨37, 3, dl (lenc Node.pd L1)⟩), (1004, ⟨121, 3, [.d (.agg [(.int .i64 mark1), (.int .i64 (IntKind.i64.wrap a1)), (.int .i64 0)])]⟩)], [], none⟩) sc ?_
     obtain ⟨r5, hx_25, h⟩ := bind_some h
     refine cl (m_tariff_merged_ok r2 L2 _ hx_25) ?_
     iterate 5 refine oo ?_
     refine AOps.nil (k _ ?_)
     refine sg fun K k => ?_
     obtain ⟨e2, ⟨f_26, f_27, f_28, f_29⟩, h⟩ := idx_bind h
     try simp only [Int.reduceToNat] at f_28 f_29
     iterate 2 refine oo ?_
     refine oo ?_ (by intro K k; simp (disch := omega) only [go_sem, f_28, ↓reduceIte]; exact k)
     refine oo ?_
     refine AOps.nil (k _ ?_)
     refine jn (α := (Int × Int × (List Rule) × (List (Arr3_Int × Int)) × (List (ByteArray × Int)) × (List Node))) [7] [1004] (fun i t => (0, .ptr 0 0 0) :: (17, .d (.int .i64 i.1)) :: t) (fun i t => (0, ⟨92, 5, [.agg [.d (.int .i64 i.2.1), .d (.imm 2 (lenc Rule.pd i.2.2.1)), .mp 1, .mp 2, .slc 1003 0 i.2.2.2.2.2.length]]⟩) :: (1, ⟨89, 0, mels Arr3_Int.pd (PD.int .i64) i.2.2.2.1⟩) :: (2, ⟨90, 0, mels PD.str (PD.int .i64) i.2.2.2.2.1⟩) :: (1003, ⟨37, 3, dl (lenc Node.pd i.2.2.2.2.2)⟩) :: t) h ?_ ?_
     ·intro _ hj_31
      refine sg fun K k => ?_
      iterate 3 refine oo ?_
      refine AOps.nil (k _ ?_)
      refine cd hj_31 (fun hj_31 => ?_) (fun hj_31 => ?_)
      ·refine AWp.reg ?_
       iterate 5 refine oo ?_
       refine AOps.sub (τ := ⟨[(0, .ptr 0 0 0), (7, .ptr 1004 0 0), (85, .ptr 0 0 0), (89, .d (.agg [(.int .i64 mark1), (.imm 1 (lenc (PD.int .i64) r5.1)), (.imm 1 (lenc (PD.int .i64) r5.2))]))], [(0, ⟨92, 5, [.agg [.d (.int .i64 c1), .d (.imm 2 (lenc Rule.pd c2)), .mp 1, .mp 2, .slc 1003 0 L1.length]]⟩), (1, ⟨89, 0, mels Arr3_Int.pd (PD.int .i64) M1⟩), (2, ⟨90, 0, mels PD.str (PD.int .i64) M2⟩), (1003, ⟨37, 3, dl (lenc Node.pd L1)⟩), (1004, ⟨121, 3, [.d (.agg [(.int .i64 mark1), (.int .i64 (IntKind.i64.wrap a1)), (.int .i64 0)])]⟩)], [], none⟩) sb ?_
       obtain ⟨r6, hx_33, hj_31⟩ := bind_some hj_31
       refine clU [(0, 0), (1, 1), (2, 2), (1003, 1003)] [1003] (m_tariff_builder_node_h_ok (⟨c1, c2, M1, M2, L1⟩ : Builder) (⟨mark1, r5.1, r5.2⟩ : Node) _ hx_33) ?_
       refine oo ?_
       refine AOps.nil ?_
       cases hj_31; exact sb
      ·refine AWp.skip ?_
       cases hj_31; exact sb
     ·rintro ⟨n1, c5, c6, M5, M6, L5⟩ h; dsimp only at h ⊢
      refine sd mo fun K k => ?_
      iterate 6 refine dd ?_
      refine DOps.stop (by kernel_rfl) ?_
      refine oms (k := (⟨mark1, (IntKind.i64.wrap a1), 0⟩ : Arr3_Int)) (L := M5) (v := n1) (encV := (PD.int .i64)) KE121 MU89 ?_
      refine AOps.nil (k _ ?_)
      refine sg fun K k => ?_
      iterate 2 refine oo ?_
      refine AOps.nil (k _ ?_)
      refine AWp.ret ?_
      cases h; exact rtO
end Go.Pv.Tryd

namespace Go.Pv.Tryd
open Go.Proofs Go.Pv
theorem m_tariff_builder_ordered_1_h_ok (n : Nat) : ∀ (m1 : (List (Int × Int))) (l1 : (List Node)) (o1 : Builder) (n1 : Int) (r : (Int × (List (Int × Int)) × (List Node))) (h : m_tariff_builder_ordered_1_h n m1 l1 o1 n1 = some r), ObjFn Tryd.prog G 91 [.d (.int .i64 n1), .ptr 0 0 0, .ptr 1 0 0, .ptr 2 0 0, .ptr 3 0 0] (dynH 0 (subs Node.sub l1) ([(0, ⟨133, 1, [.mp 4]⟩), (1, ⟨32, 1, [.slc 1005 0 l1.length]⟩), (2, ⟨88, 1, [.ptr 6 0 0]⟩), (3, ⟨124, 1, [.func (.func 91) [.ptr 0 0 0, .ptr 1 0 0, .ptr 2 0 0, .ptr 3 0 0]]⟩), (4, ⟨133, 0, mels (PD.int .i64) (PD.int .i64) m1⟩), (1005, ⟨37, 3, nelF 0 Node.npv l1⟩), (6, ⟨92, 5, [.agg [.d (.int .i64 o1.k), .d (.imm 2 (lenc Rule.pd o1.rules)), .mp 7, .mp 8, .slc 1009 0 o1.nodes.length]]⟩), (7, ⟨89, 0, mels Arr3_Int.pd (PD.int .i64) o1.known⟩), (8, ⟨90, 0, mels PD.str (PD.int .i64) o1.same⟩), (1009, ⟨37, 3, dl (lenc Node.pd o1.nodes)⟩)])) (.d (.int .i64 r.1)) (dynH 0 (subs Node.sub r.2.2) ([(0, ⟨133, 1, [.mp 4]⟩), (1, ⟨32, 1, [.slc 1005 0 r.2.2.length]⟩), (2, ⟨88, 1, [.ptr 6 0 0]⟩), (3, ⟨124, 1, [.func (.func 91) [.ptr 0 0 0, .ptr 1 0 0, .ptr 2 0 0, .ptr 3 0 0]]⟩), (4, ⟨133, 0, mels (PD.int .i64) (PD.int .i64) r.2.1⟩), (1005, ⟨37, 3, nelF 0 Node.npv r.2.2⟩), (6, ⟨92, 5, [.agg [.d (.int .i64 o1.k), .d (.imm 2 (lenc Rule.pd o1.rules)), .mp 7, .mp 8, .slc 1009 0 o1.nodes.length]]⟩), (7, ⟨89, 0, mels Arr3_Int.pd (PD.int .i64) o1.known⟩), (8, ⟨90, 0, mels PD.str (PD.int .i64) o1.same⟩), (1009, ⟨37, 3, dl (lenc Node.pd o1.nodes)⟩)])) := by
 induction n with
 | zero => intro m1 l1 o1 n1 r h; cases h
 | succ n ih =>
  intro m1 l1 o1 n1 r h
  replace h : m_tariff_builder_ordered_1_h_b (m_tariff_builder_ordered_1_h n) m1 l1 o1 n1 = some r := h
  unfold m_tariff_builder_ordered_1_h_b at h
  refine ObjFn.pf Tryd.func91 Tryd.ntmps91 ?_
  refine sg fun K k => ?_
  refine oo ?_
  refine AOps.nil (k _ ?_)
  refine AWp.seq fun _ K_1 => ?_
  refine sg fun K k => ?_
  iterate 2 refine oo ?_
  refine AOps.nil (k _ ?_)
  refine cd h (fun h => ?_) (fun h => ?_)
  ·refine sg fun K k => ?_
   iterate 2 refine oo ?_
   refine AOps.nil (k _ ?_)
   refine AWp.ret ?_
   cases h; exact rtO
  ·refine AWp.skip ?_
   refine K_1 _ ?_
   refine AWp.seq fun _ K_3 => ?_
   refine sg fun K k => ?_
   iterate 2 refine oo ?_
   refine oml (k := n1) (L := m1) (v0 := 0) (encV := (PD.int .i64)) KE3 MU133 ty3 MZ3 (fun _ _ => .int _ _) ?_
   iterate 5 refine oo ?_
   refine AOps.nil (k _ ?_)
   refine sg fun K k => ?_
   refine oo ?_
   refine AOps.nil (k _ ?_)
   refine cd h (fun h => ?_) (fun h => ?_)
   ·refine sg fun K k => ?_
    iterate 2 refine oo ?_
    refine AOps.nil (k _ ?_)
    refine AWp.ret ?_
    cases h; exact rtO
   ·refine AWp.skip ?_
    refine K_3 _ ?_
    refine sg fun K k => ?_
    iterate 3 refine oo ?_
    refine AOps.nil (k _ ?_)
    refine sg fun K k => ?_
    iterate 3 refine oo ?_
    refine oms (k := n1) (L := m1) (v := (l1.length : Int)) (encV := (PD.int .i64)) KE3 MU133 ?_
    refine AOps.nil (k _ ?_)
    refine AWp.sub (τ := ⟨[(0, .d (.int .i64 n1)), (1, .ptr 0 0 0), (2, .ptr 1 0 0), (3, .ptr 2 0 0), (4, .ptr 3 0 0), (6, .d (.int .i64 0)), (7, .d (.int .i64 ((mget n1 m1).getD 0))), (8, .d (.bool ((mget n1 m1).isSome))), (9, .d (.int .i64 (l1.length : Int))), (13, .d (.int .i64 n1)), (14, .d (.bool (decide (n1 < 0)))), (16, .tuple [.d (.int .i64 ((mget n1 m1).getD 0)), .d (.bool ((mget n1 m1).isSome))]), (17, .mp 4), (18, .d (.int .i64 n1)), (19, .tuple [.d (.int .i64 ((mget n1 m1).getD 0)), .d (.bool ((mget n1 m1).isSome))]), (20, .d (.int .i64 ((mget n1 m1).getD 0))), (21, .d (.bool ((mget n1 m1).isSome))), (22, .d (.bool ((mget n1 m1).isSome))), (25, .d (.int .i64 (l1.length : Int))), (26, .mp 4), (27, .d (.int .i64 n1)), (28, .d (.int .i64 (l1.length : Int)))], (dynH 0 (subs Node.sub l1) ([(0, ⟨133, 1, [.mp 4]⟩), (1, ⟨32, 1, [.slc 1005 0 l1.length]⟩), (2, ⟨88, 1, [.ptr 6 0 0]⟩), (3, ⟨124, 1, [.func (.func 91) [.ptr 0 0 0, .ptr 1 0 0, .ptr 2 0 0, .ptr 3 0 0]]⟩), (4, ⟨133, 0, mels (PD.int .i64) (PD.int .i64) (mset n1 (l1.length : Int) m1)⟩), (1005, ⟨37, 3, nelF 0 Node.npv l1⟩), (6, ⟨92, 5, [.agg [.d (.int .i64 o1.k), .d (.imm 2 (lenc Rule.pd o1.rules)), .mp 7, .mp 8, .slc 1009 0 o1.nodes.length]]⟩), (7, ⟨89, 0, mels Arr3_Int.pd (PD.int .i64) o1.known⟩), (8, ⟨90, 0, mels PD.str (PD.int .i64) o1.same⟩), (1009, ⟨37, 3, dl (lenc Node.pd o1.nodes)⟩)])), [], none⟩) sb ?_
    refine sdX mo [(1005, [29, 49, 1000001])] fun K k => ?_
    obtain ⟨e1, ⟨f_5, f_6, f_7, f_8⟩, h⟩ := idx_bind h
    iterate 8 (refine dd ?_ (by intro K k; simp (disch := omega) only [go_sem, true_or, or_true, and_self, true_and, and_true, ↓reduceIte]; exact k))
    refine dd ?_ (by intro K k; simp (disch := omega) only [go_sem, f_7, true_or, or_true, and_self, true_and, and_true, ↓reduceIte]; exact k)
    iterate 7 (refine dd ?_ (by intro K k; simp (disch := omega) only [go_sem, true_or, or_true, and_self, true_and, and_true, ↓reduceIte]; exact k))
    refine dd ?_ (by intro K k; simp (disch := omega) only [go_sem, f_7, true_or, or_true, and_self, true_and, and_true, ↓reduceIte]; exact k)
    obtain ⟨r1, hx_9, h⟩ := bind_some h
    refine dcl (RowFn.pure (clone_92 e1.Cuts _ hx_9)) ?_
    refine dd ?_ (by intro K k; simp (disch := omega) only [go_sem, true_or, or_true, and_self, true_and, and_true, ↓reduceIte]; exact k)
    refine ddl ?_ (by intro K k; simp (disch := omega) only [go_sem, true_or, or_true, and_self, true_and, and_true, ↓reduceIte]; exact k)
    obtain ⟨hg_10, h⟩ := guardO_some h
    refine dapH [29, 49, 1000001] [(1, ⟨32, 1, [.slc 1005 0 l1.length]⟩)] [.d (.agg [(.int .i64 e1.Mark), (.imm 1 (lenc (PD.int .i64) r1)), .nilslice])] se32 ?_
    refine dd ?_ (by intro K k; simp (disch := omega) only [go_sem, true_or, or_true, and_self, true_and, and_true, ↓reduceIte]; exact k)
    refine DOps.nil (by kernel_rfl) (k _ ?_)
    refine AWp.sub (psh 0 1005 2 (⟨e1.Mark, r1, []⟩ : Node)) ?_
    refine jn (α := ((List (Int × Int)) × (List Node))) [9] [2, 3, 6, 7, 8, 1009] (fun i t => t) (fun i t => dynH 0 (subs Node.sub i.2) ((0, ⟨133, 1, [.mp 4]⟩) :: (1, ⟨32, 1, [.slc 1005 0 i.2.length]⟩) :: (4, ⟨133, 0, mels (PD.int .i64) (PD.int .i64) i.1⟩) :: (1005, ⟨37, 3, nelF 0 Node.npv i.2⟩) :: t)) h ?_ ?_
    ·intro _ hj_12
     refine sg fun K k => ?_
     obtain ⟨e2, ⟨f_13, f_14, f_15, f_16⟩, hj_12⟩ := idx_bind hj_12
     iterate 7 refine oo ?_
     refine oo ?_ (by intro K k; simp (disch := omega) only [go_sem, f_15, ↓reduceIte]; exact k)
     iterate 2 refine oo ?_
     refine AOps.nil (k _ ?_)
     refine AWp.block ?_
     obtain ⟨x_21, hl_18, h2_19⟩ := bind_some hj_12
     refine lp (S := (Int × (List (Int × Int)) × (List Node))) [2, 4, 9, 57, 58] [2, 3, 6, 7, 8, 1009] (fun i t => (59, .d (.int .i64 i.1)) :: t) (fun i t => dynH 0 (subs Node.sub i.2.2) ((0, ⟨133, 1, [.mp 4]⟩) :: (1, ⟨32, 1, [.slc 1005 0 i.2.2.length]⟩) :: (4, ⟨133, 0, mels (PD.int .i64) (PD.int .i64) i.2.1⟩) :: (1005, ⟨37, 3, nelF 0 Node.npv i.2.2⟩) :: t)) hl_18 ?_ ?_; exact sb; clear hl_18
     rintro ⟨v1, M2, L2⟩ _ hb_20; unfold m_tariff_builder_ordered_1_h_l1 at hb_20; try dsimp only at hb_20
     try dsimp only
     refine sg fun K k => ?_
     refine oo ?_
     refine AOps.nil (k _ ?_)
     refine AWp.seq fun _ K_23 => ?_
     refine cd hb_20 (fun hb_20 => ?_) (fun hb_20 => ?_)
     ·refine AWp.skip ?_
      refine K_23 _ ?_
      refine AWp.seq fun _ K_25 => ?_
      refine AWp.block ?_
      refine sg fun K k => ?_
      obtain ⟨e3, ⟨f_26, f_27, f_28, f_29⟩, hb_20⟩ := idx_bind hb_20
      refine oo ?_
      refine oo ?_ (by intro K k; simp (disch := omega) only [go_sem, f_28, ↓reduceIte]; exact k)
      refine oo ?_
      refine AOps.nil (k _ ?_)
      refine sg fun K k => ?_
      iterate 2 refine oo ?_
      obtain ⟨r2, hx_30, hb_20⟩ := bind_some hb_20
      refine clD [(0, 0), (1, 1), (2, 2), (3, 3), (4, 4), (1005, 1005), (6, 6), (7, 7), (8, 8), (1009, 1009)] [1005, 1009] (ih M2 L2 o1 e3 _ hx_30) ?_
      refine oo ?_
      refine AOps.nil (k _ ?_)
      obtain ⟨e4, ⟨f_31, f_32, f_33, f_34⟩, hb_20⟩ := idx_bind hb_20
      try simp only [Int.toNat_natCast] at f_33 f_34
      have hF_35 := fun p => nelF_hole (c := 0) (i := ((l1.length : Int)).toNat) (F := Node.npv) f_33 p
      have hf_36 := nelF_focus (c := 0) (i := ((l1.length : Int)).toNat) (q := 1010) (F := Node.npv) f_33
      refine AWp.sub (fcs 0 (((l1.length : Int)).toNat) 1010 (⟨3, 1, dl (lenc (PD.int .i64) e4.To)⟩ : Row) (F := Node.npv) (g := Node.sub) f_33 (hl := by (simp only [renHeap, Row.ren, renL, PV.ren, dl_ren, mels_ren, optP_ren, foc_low, Nat.reduceLT, hf_36]; rfl))) ?_
      refine drX mo [(1010, [72, 75, 1001005])] ?_
      iterate 6 (refine dd ?_ (by intro K k; simp (disch := omega) only [go_sem, true_or, or_true, and_self, true_and, and_true, ↓reduceIte]; exact k))
      refine dd ?_ (by intro K k; simp (disch := omega) only [go_sem, hF_35, List.set_set, true_or, or_true, and_self, true_and, and_true, ↓reduceIte]; exact k)
      refine dd ?_ (by intro K k; simp (disch := omega) only [go_sem, true_or, or_true, and_self, true_and, and_true, ↓reduceIte]; exact k)
      refine ddl ?_ (by intro K k; simp (disch := omega) only [go_sem, true_or, or_true, and_self, true_and, and_true, ↓reduceIte]; exact k)
      obtain ⟨hg_37, hb_20⟩ := guardO_some hb_20
      refine dapH [72, 75, 1001005] [(1005, ⟨37, 3, (nelF 0 Node.npv r2.2.2).set (((l1.length : Int)).toNat) (.agg [.d (.int .i64 e4.Mark), .d (.imm 1 (lenc (PD.int .i64) e4.Cuts)), .slc 1010 0 e4.To.length])⟩)] (dl (lenc (PD.int .i64) [r2.1])) se26 ?_
      iterate 2 (refine dd ?_ (by intro K k; simp (disch := omega) only [go_sem, true_or, or_true, and_self, true_and, and_true, ↓reduceIte]; exact k))
      refine dd ?_ (by intro K k; simp (disch := omega) only [go_sem, hF_35, List.set_set, true_or, or_true, and_self, true_and, and_true, ↓reduceIte]; exact k)
      refine DOps.nil (by kernel_rfl) ?_
      refine K_25 _ ?_
      refine AWp.sub (drp [(2, .ptr 1 0 0), (4, .ptr 3 0 0), (9, .d (.int .i64 (l1.length : Int))), (11, .d (.int .i64 e3)), (12, .d (.int .i64 r2.1)), (57, .d (.imm 1 (lenc (PD.int .i64) e2.To))), (58, .d (.int .i64 (e2.To.length : Int))), (59, .d (.int .i64 v1)), (60, .d (.bool (decide (v1 < (e2.To.length : Int))))), (61, .dptr 1 (lenc (PD.int .i64) e2.To) ((v1).toNat) 0), (62, .d (.int .i64 e3)), (63, .func (.func 91) [.ptr 0 0 0, .ptr 1 0 0, .ptr 2 0 0, .ptr 3 0 0]), (64, .d (.int .i64 e3)), (65, .d (.int .i64 r2.1)), (66, .slc 1005 0 ((r2.2.2.set (((l1.length : Int)).toNat) (⟨e4.Mark, e4.Cuts, (e4.To ++ [r2.1])⟩ : Node)).length)), (67, .d (.int .i64 (l1.length : Int))), (68, .slc 1005 0 ((r2.2.2.set (((l1.length : Int)).toNat) (⟨e4.Mark, e4.Cuts, (e4.To ++ [r2.1])⟩ : Node)).length)), (69, .d (.int .i64 (l1.length : Int))), (70, .ptr 1005 (((l1.length : Int)).toNat) 0), (71, .ptr 1005 (((l1.length : Int)).toNat) 2), (73, .d (.int .i64 r2.1)), (74, .d (.imm 1 (lenc (PD.int .i64) [r2.1]))), (76, .ptr 1005 (((l1.length : Int)).toNat) 0), (77, .ptr 1005 (((l1.length : Int)).toNat) 2)]) ?_
      refine AWp.sub (ufc (F := Node.npv) (g := Node.sub) 0 (((l1.length : Int)).toNat) 1010 (⟨e4.Mark, e4.Cuts, (e4.To ++ [r2.1])⟩ : Node) [(0, ⟨133, 1, [.mp 4]⟩), (1, ⟨32, 1, [.slc 1005 0 ((r2.2.2.set (((l1.length : Int)).toNat) (⟨e4.Mark, e4.Cuts, (e4.To ++ [r2.1])⟩ : Node)).length)]⟩), (2, ⟨88, 1, [.ptr 6 0 0]⟩), (3, ⟨124, 1, [.func (.func 91) [.ptr 0 0 0, .ptr 1 0 0, .ptr 2 0 0, .ptr 3 0 0]]⟩), (4, ⟨133, 0, mels (PD.int .i64) (PD.int .i64) r2.2.1⟩), (6, ⟨92, 5, [.agg [.d (.int .i64 o1.k), .d (.imm 2 (lenc Rule.pd o1.rules)), .mp 7, .mp 8, .slc 1009 0 o1.nodes.length]]⟩), (7, ⟨89, 0, mels Arr3_Int.pd (PD.int .i64) o1.known⟩), (8, ⟨90, 0, mels PD.str (PD.int .i64) o1.same⟩), (1005, ⟨37, 3, nelF 0 Node.npv (r2.2.2.set (((l1.length : Int)).toNat) (⟨e4.Mark, e4.Cuts, (e4.To ++ [r2.1])⟩ : Node))⟩), (1009, ⟨37, 3, dl (lenc Node.pd o1.nodes)⟩)] f_34 (hl := by (repeat' (first | exact trivial | exact rfl | exact dl_ren _ _ | exact mels_ren _ _ _ _ | exact nelF_unfocus (by decide) f_34 | exact nelF_unfocus' (by decide) f_34 (by (simp only [go_sem, List.length_append, List.length_set, List.length_replicate, List.length_cons, List.length_nil, Nat.zero_add]; done)) | (simp only [renL, PV.ren, List.length_append, List.length_set, List.length_replicate, List.length_cons, List.length_nil, Nat.zero_add]; exact rfl) | apply And.intro)))) ?_
      refine AWp.reg ?_
      iterate 2 refine oo ?_
      refine AOps.nil ?_
      exact ln hb_20 sb
     ·refine AWp.exit ?_
      refine lx hb_20 fun hx => ?_; cases hx; try dsimp only at h2_19
      cases h2_19; exact sb
    ·rintro ⟨M1, L1⟩ h; dsimp only at h ⊢
     refine sg fun K k => ?_
     iterate 2 refine oo ?_
     refine AOps.nil (k _ ?_)
     refine AWp.ret ?_
     cases h; exact rtO
end Go.Pv.Tryd

namespace Go.Pv.Tryd
open Go.Proofs Go.Pv
theorem m_tariff_builder_ordered_h_ok (o1 : Builder) (top1 : Int) (r : ((List Node) × Builder)) (h : m_tariff_builder_ordered_h o1 top1 = some r) : ObjFn Tryd.prog G 59 [.ptr 0 0 0, .d (.int .i64 top1)] [(0, ⟨92, 5, [.agg [.d (.int .i64 o1.k), .d (.imm 2 (lenc Rule.pd o1.rules)), .mp 1, .mp 2, .slc 1003 0 o1.nodes.length]]⟩), (1, ⟨89, 0, mels Arr3_Int.pd (PD.int .i64) o1.known⟩), (2, ⟨90, 0, mels PD.str (PD.int .i64) o1.same⟩), (1003, ⟨37, 3, dl (lenc Node.pd o1.nodes)⟩)] (.d (.imm 3 (lenc Node.pd r.1))) [(0, ⟨92, 5, [.agg [.d (.int .i64 r.2.k), .d (.imm 2 (lenc Rule.pd r.2.rules)), .mp 1, .mp 2, .slc 1003 0 r.2.nodes.length]]⟩), (1, ⟨89, 0, mels Arr3_Int.pd (PD.int .i64) r.2.known⟩), (2, ⟨90, 0, mels PD.str (PD.int .i64) r.2.same⟩), (1003, ⟨37, 3, dl (lenc Node.pd r.2.nodes)⟩)] := by
 unfold m_tariff_builder_ordered_h at h
 refine ObjFn.pf Tryd.func59 Tryd.ntmps59 ?_
 refine sg fun K k => ?_
 iterate 2 refine oo ?_
 refine AOps.nil (k _ ?_)
 refine sg fun K k => ?_
 refine oo ?_
 refine AOps.sub (Sub.voidVar 1005 37 3 1006 rfl (by decide) rfl rfl (by decide) (by decide)) ?_
 simp only [hput, reduceCtorEq, ↓reduceIte, Nat.reduceAdd, Nat.reduceMul, Nat.reduceLT, Nat.reduceLeDiff, Nat.reduceEqDiff, Nat.reduceBEq, Int.reduceToNat]
 refine AOps.sub (nest0 0 Node.sub) ?_
 refine AOps.nil (k _ ?_)
 refine sg fun K k => ?_
 refine omk (α := Int) (β := Int) (PD.int .i64) (PD.int .i64) 1007 ?_
 iterate 2 refine oo ?_
 refine AOps.nil (k _ ?_)
 refine sg fun K k => ?_
 refine oo ?_
 refine AOps.nil (k _ ?_)
 refine sg fun K k => ?_
 iterate 2 refine oo ?_
 refine AOps.nil (k _ ?_)
 refine sg fun K k => ?_
 iterate 2 refine oo ?_
 obtain ⟨r1, hx_1, h⟩ := bind_some h
 refine clD [(0, 1008), (1, 1005), (2, 1004), (3, 1009), (4, 1007), (1005, 1006), (6, 0), (7, 1), (8, 2), (1009, 1003)] [1006, 1003] (m_tariff_builder_ordered_1_h_ok 100 [] [] o1 top1 _ hx_1) ?_
 refine AOps.nil (k _ ?_)
 refine sg fun K k => ?_
 iterate 2 refine oo ?_
 refine AOps.nil (k _ ?_)
 refine AWp.sub (unn 0 1006 Node.pd) ?_
 refine AWp.sub (τ := ⟨[(4, .d (.imm 3 (lenc Node.pd r1.2.2)))], [(0, ⟨92, 5, [.agg [.d (.int .i64 o1.k), .d (.imm 2 (lenc Rule.pd o1.rules)), .mp 1, .mp 2, .slc 1003 0 o1.nodes.length]]⟩), (1, ⟨89, 0, mels Arr3_Int.pd (PD.int .i64) o1.known⟩), (2, ⟨90, 0, mels PD.str (PD.int .i64) o1.same⟩), (1003, ⟨37, 3, dl (lenc Node.pd o1.nodes)⟩)], [], none⟩) sc ?_
 refine AWp.ret ?_
 cases h; exact rtO
end Go.Pv.Tryd

namespace Go.Pv.Tryd
open Go.Proofs Go.Pv
theorem m_tariff_Diagram_ok (k1 : Int) (t1 : (List Rule)) (r : ((List Node) × Int)) (h : m_tariff_Diagram k1 t1 = some r) : PureFn Tryd.prog G 26 [.d (.int .i64 k1), .d (.imm 2 (lenc Rule.pd t1))] (.tuple [.d (.imm 3 (lenc Node.pd r.1)), .d (.int .i64 r.2)]) := by
 unfold m_tariff_Diagram at h
 refine pf Tryd.func26 Tryd.ntmps26 ?_
 refine sg fun K k => ?_
 iterate 2 refine oo ?_
 refine AOps.nil (k _ ?_)
 refine AWp.seq fun _ K_1 => ?_
 refine sg fun K k => ?_
 iterate 2 refine oo ?_
 refine ol ?_
 obtain ⟨r1, hx_2, h⟩ := bind_some h
 refine cl (m_tariff_checked_ok k1 [t1] _ hx_2) ?_
 refine oo ?_
 refine AOps.nil (k _ ?_)
 refine sg fun K k => ?_
 iterate 2 refine oo ?_
 refine AOps.nil (k _ ?_)
 refine cd h (fun h => ?_) (fun h => ?_)
 ·refine sg fun K k => ?_
  iterate 3 refine oo ?_
  refine AOps.nil (k _ ?_)
  refine AWp.ret ?_
  cases h; exact rt
 ·refine AWp.skip ?_
  refine K_1 _ ?_
  refine sg fun K k => ?_
  iterate 2 refine oo ?_
  refine omk (α := Arr3_Int) (β := Int) Arr3_Int.pd (PD.int .i64) 1000 ?_
  refine omk (α := ByteArray) (β := Int) PD.str (PD.int .i64) 1001 ?_
  iterate 3 refine oo ?_
  refine AOps.sub (Sub.voidCell 1002 4 37 3 1003 (x := ⟨92, 5, [.agg [.d (.int .i64 k1), .d (.imm 2 (lenc Rule.pd t1)), .mp 1000, .mp 1001, .d .nilslice]]⟩) (p := .agg [.d (.int .i64 k1), .d (.imm 2 (lenc Rule.pd t1)), .mp 1000, .mp 1001, .d .nilslice]) (cs := [.d (.int .i64 k1), .d (.imm 2 (lenc Rule.pd t1)), .mp 1000, .mp 1001, .d .nilslice]) rfl (Nat.le_of_ble_eq_true rfl) rfl rfl rfl rfl rfl (by decide) (by decide)) ?_
  simp only [hput, List.set_cons_succ, List.set_cons_zero, reduceCtorEq, ↓reduceIte, Nat.reduceAdd, Nat.reduceMul, Nat.reduceLT, Nat.reduceLeDiff, Nat.reduceEqDiff, Nat.reduceBEq, Int.reduceToNat]
  refine AOps.nil (k _ ?_)
  refine sg fun K k => ?_
  iterate 2 refine oo ?_
  obtain ⟨r2, hx_4, h⟩ := bind_some h
  refine cl (m_tariff_all_ok t1 _ hx_4) ?_
  obtain ⟨r3, hx_5, h⟩ := bind_some h
  refine clU [(0, 1002), (1, 1000), (2, 1001), (1003, 1003)] [1003] (m_tariff_builder_at_h_ok 100 (⟨k1, t1, [], [], []⟩ : Builder) 0 r2 _ hx_5) ?_
  refine oo ?_
  refine AOps.nil (k _ ?_)
  refine AWp.seq fun _ K_6 => ?_
  refine sg fun K k => ?_
  iterate 2 refine oo ?_
  refine AOps.nil (k _ ?_)
  refine cd h (fun h => ?_) (fun h => ?_)
  ·refine sg fun K k => ?_
   refine ol ?_
   refine oo ?_
   refine ol ?_
   refine oo ?_
   refine ol ?_
   iterate 2 refine oo ?_
   refine AOps.nil (k _ ?_)
   refine AWp.ret ?_
   cases h; exact rt
  ·refine AWp.skip ?_
   refine K_6 _ ?_
   refine sg fun K k => ?_
   iterate 2 refine oo ?_
   obtain ⟨r4, hx_8, h⟩ := bind_some h
   refine clU [(0, 1002), (1, 1000), (2, 1001), (1003, 1003)] [1003] (m_tariff_builder_ordered_h_ok r3.2 r3.1 _ hx_8) ?_
   iterate 2 refine oo ?_
   refine AOps.nil (k _ ?_)
   refine AWp.ret ?_
   cases h; exact rt
end Go.Pv.Tryd

namespace Go.Pv.Tryd
open Go.Proofs Go.Pv
theorem m_cocketlaw02_same_ok (a1 : (List Int)) (b1 : (List Int)) (r : Bool) (h : m_cocketlaw02_same a1 b1 = some r) : PureFn Tryd.prog G 23 [.d (.imm 1 (lenc (PD.int .i64) a1)), .d (.imm 1 (lenc (PD.int .i64) b1))] (.d (.bool r)) := by
 unfold m_cocketlaw02_same at h
 refine pf Tryd.func23 Tryd.ntmps23 ?_
 refine sg fun K k => ?_
 refine oo ?_
 refine AOps.nil (k _ ?_)
 refine AWp.seq fun _ K_1 => ?_
 refine sg fun K k => ?_
 iterate 5 refine oo ?_
 refine AOps.nil (k _ ?_)
 refine cd h (fun h => ?_) (fun h => ?_)
 ·refine sg fun K k => ?_
  refine oo ?_
  refine AOps.nil (k _ ?_)
  refine AWp.ret ?_
  cases h; exact rt
 ·refine AWp.skip ?_
  refine K_1 _ ?_
  refine jm (ι := Unit) [] [] (fun i t => t) (fun i t => t) .inl h ?_ ?_
  ·intro _ hj_4 h
   refine sg fun K k => ?_
   refine oo ?_
   refine AOps.nil (k _ ?_)
   refine AWp.block ?_
   obtain ⟨x_9, hl_6, h2_7⟩ := bind_some hj_4
   refine lp (S := Int) [0, 1] [] (fun i t => (5, .d (.int .i64 i)) :: t) (fun i t => t) hl_6 ?_ ?_; exact sb; clear hl_6
   rintro i1 _ hb_8; unfold m_cocketlaw02_same_l1 at hb_8; try dsimp only at hb_8
   try dsimp only
   refine AWp.seq fun _ K_11 => ?_
   refine sg fun K k => ?_
   iterate 4 refine oo ?_
   refine AOps.nil (k _ ?_)
   refine cd hb_8 (fun hb_8 => ?_) (fun hb_8 => ?_)
   ·refine AWp.skip ?_
    refine K_11 _ ?_
    refine AWp.seq fun _ K_13 => ?_
    refine AWp.block ?_
    refine sd mo fun K k => ?_
    obtain ⟨e1, ⟨f_14, f_15, f_16, f_17⟩, hb_8⟩ := idx_bind hb_8
    iterate 3 refine dd ?_
    refine dd ?_ (by intro K k; simp (disch := omega) only [go_sem, f_16, ↓reduceIte]; exact k)
    obtain ⟨e2, ⟨f_18, f_19, f_20, f_21⟩, hb_8⟩ := idx_bind hb_8
    iterate 3 refine dd ?_
    refine dd ?_ (by intro K k; simp (disch := omega) only [go_sem, f_20, ↓reduceIte]; exact k)
    refine dd ?_
    refine DOps.nil (by kernel_rfl) (k _ ?_)
    refine cd hb_8 (fun hb_8 => ?_) (fun hb_8 => ?_)
    ·refine sg fun K k => ?_
     refine oo ?_
     refine AOps.nil (k _ ?_)
     refine AWp.ret ?_
     refine lx hb_8 fun hx => ?_; cases hx; try dsimp only at h2_7
     cases h2_7; try dsimp only at h
     cases h; exact rt
    ·refine AWp.skip ?_
     refine K_13 _ ?_
     refine AWp.reg ?_
     iterate 3 refine oo ?_
     refine AOps.nil ?_
     exact ln hb_8 sb
   ·refine AWp.exit ?_
    refine lx hb_8 fun hx => ?_; cases hx; try dsimp only at h2_7
    exact ln h2_7 sb
  ·rintro _ h; dsimp only at h ⊢
   refine sg fun K k => ?_
   refine oo ?_
   refine AOps.nil (k _ ?_)
   refine AWp.ret ?_
   cases h; exact rt
end Go.Pv.Tryd

namespace Go.Pv.Tryd
open Go.Proofs Go.Pv
set_option maxHeartbeats 4000000 in
theorem m_cocketlaw02_alive_ok (r : Bool) (h : m_cocketlaw02_alive = some r) : PureFn Tryd.prog G 19 [] (.d (.bool r)) := by
 unfold m_cocketlaw02_alive at h
 refine pf Tryd.func19 Tryd.ntmps19 ?_
 refine sg fun K k => ?_
 refine oo ?_
 refine AOps.nil (k _ ?_)
 refine sg fun K k => ?_
 obtain ⟨r1, hx_1, h⟩ := bind_some h
 refine cl (m_cocketlaw02_three_ok _ hx_1) ?_
 obtain ⟨r2, hx_2, h⟩ := bind_some h
 refine cl (m_tariff_Dead_ok 1 r1 _ hx_2) ?_
 iterate 5 refine oo ?_
 refine AOps.nil (k _ ?_)
 refine sg fun K k => ?_
 obtain ⟨r3, hx_3, h⟩ := bind_some h
 refine cl (m_cocketlaw02_three_ok _ hx_3) ?_
 obtain ⟨r4, hx_4, h⟩ := bind_some h
 refine cl (m_tariff_Gap_ok 1 r3 _ hx_4) ?_
 iterate 5 refine oo ?_
 refine AOps.nil (k _ ?_)
 refine sg fun K k => ?_
 obtain ⟨r5, hx_5, h⟩ := bind_some h
 refine cl (m_cocketlaw02_three_ok _ hx_5) ?_
 obtain ⟨r6, hx_6, h⟩ := bind_some h
 refine cl (m_tariff_Diagram_ok 1 r5 _ hx_6) ?_
 iterate 5 refine oo ?_
 refine AOps.nil (k _ ?_)
 refine sg fun K k => ?_
 iterate 3 refine oo ?_
 obtain ⟨b1, hc_7, h⟩ := bind_some h
 refine ct 4 [3, 4, 5, 6] [] (fun  t => (28, .d (.bool b1)) :: t) ?_ ?_
 ·rcases bt (decide (r2.2 = 0)) with hg_9 | hg_9
  ·rw [hg_9]
   rw [hg_9, cond_true] at hc_7
   refine oo ?_
   refine ol ?_
   obtain ⟨r7, hx_8, hc_7⟩ := bind_some hc_7
   refine cl (m_cocketlaw02_same_ok r2.1 [2] _ hx_8) ?_
   refine oo ?_
   refine AOps.nil ?_
   cases hc_7
   exact sb
  ·rw [hg_9]
   rw [hg_9, cond_false] at hc_7
   iterate 4 refine oo ?_
   refine AOps.nil ?_
   cases hc_7
   exact sb
 refine oo ?_
 refine ct 3 [3, 5, 6] [] (fun  t => (32, .d (.bool (b1 && (decide (r4.2 = 0))))) :: t) ?_ ?_
 ·rcases bt b1 with hg_11 | hg_11
  ·rw [hg_11]
   iterate 3 refine oo ?_
   refine AOps.nil ?_
   exact sb
  ·rw [hg_11]
   iterate 3 refine oo ?_
   refine AOps.nil ?_
   exact sb
 refine oo ?_
 obtain ⟨b2, hc_12, h⟩ := bind_some h
 refine ct 4 [5, 6] [] (fun  t => (37, .d (.bool b2)) :: t) ?_ ?_
 ·rcases bt (b1 && (decide (r4.2 = 0))) with hg_14 | hg_14
  ·rw [hg_14]
   rw [hg_14, cond_true] at hc_12
   refine oo ?_
   refine ol ?_
   obtain ⟨r8, hx_13, hc_12⟩ := bind_some hc_12
   refine cl (m_cocketlaw02_same_ok r4.1 [20] _ hx_13) ?_
   refine oo ?_
   refine AOps.nil ?_
   cases hc_12
   exact sb
  ·rw [hg_14]
   rw [hg_14, cond_false] at hc_12
   iterate 4 refine oo ?_
   refine AOps.nil ?_
   cases hc_12
   exact sb
 refine oo ?_
 refine ct 3 [5] [] (fun  t => (41, .d (.bool (b2 && (decide (r6.2 = 0))))) :: t) ?_ ?_
 ·rcases bt b2 with hg_16 | hg_16
  ·rw [hg_16]
   iterate 3 refine oo ?_
   refine AOps.nil ?_
   exact sb
  ·rw [hg_16]
   iterate 3 refine oo ?_
   refine AOps.nil ?_
   exact sb
 refine oo ?_
 refine ct 4 [5] [] (fun  t => (46, .d (.bool ((b2 && (decide (r6.2 = 0))) && (decide ((r6.1.length : Int) = 1))))) :: t) ?_ ?_
 ·rcases bt (b2 && (decide (r6.2 = 0))) with hg_18 | hg_18
  ·rw [hg_18]
   iterate 4 refine oo ?_
   refine AOps.nil ?_
   exact sb
  ·rw [hg_18]
   iterate 4 refine oo ?_
   refine AOps.nil ?_
   exact sb
 refine oo ?_
 obtain ⟨b3, hc_19, h⟩ := bind_some h
 refine ct 7 [] [] (fun  t => (54, .d (.bool b3)) :: t) ?_ ?_
 ·rcases bt ((b2 && (decide (r6.2 = 0))) && (decide ((r6.1.length : Int) = 1))) with hg_25 | hg_25
  ·rw [hg_25]
   rw [hg_25, cond_true] at hc_19
   obtain ⟨e1, ⟨f_20, f_21, f_22, f_23⟩, hc_19⟩ := idx_bind hc_19
   try simp only [Int.reduceToNat] at f_22 f_23
   iterate 3 refine oo ?_
   refine oo ?_ (by intro K k; simp (disch := omega) only [go_sem, f_22, ↓reduceIte]; exact k)
   refine ol ?_
   obtain ⟨r9, hx_24, hc_19⟩ := bind_some hc_19
   refine cl (m_cocketlaw02_same_ok e1.To [(-3), (-4), (-1)] _ hx_24) ?_
   refine oo ?_
   refine AOps.nil ?_
   cases hc_19
   exact sb
  ·rw [hg_25]
   rw [hg_25, cond_false] at hc_19
   iterate 7 refine oo ?_
   refine AOps.nil ?_
   cases hc_19
   exact sb
 refine oo ?_
 refine AOps.nil (k _ ?_)
 refine AWp.ret ?_
 cases h; exact rt
end Go.Pv.Tryd

namespace Go.Pv.Tryd
open Go.Proofs Go.Pv
theorem m_cocketlaw02_copied_ok (t1 : (List Rule)) (r : (List Rule)) (h : m_cocketlaw02_copied t1 = some r) : RowFn Tryd.prog G 20 [.d (.imm 2 (lenc Rule.pd t1))] 56 2 (lenc Rule.pd r) := by
 unfold m_cocketlaw02_copied at h
 refine Fn.pf Tryd.func20 Tryd.ntmps20 ?_
 refine sg fun K k => ?_
 refine oo ?_
 refine AOps.nil (k _ ?_)
 refine sg fun K k => ?_
 refine oo ?_
 refine AOps.nil (k _ ?_)
 refine AWp.sub (Sub.void 3 56 2 1000 (by rfl) (by rfl) (by decide) (by decide)) ?_
 simp only [eput, hput, reduceCtorEq, ↓reduceIte, Nat.reduceAdd, Nat.reduceMul, Nat.reduceLT, Nat.reduceLeDiff, Nat.reduceEqDiff, Nat.reduceBEq, Int.reduceToNat]
 refine jn (α := (List Rule)) [] [] (fun i t => (3, .slc 1000 0 i.length) :: t) (fun i t => (1000, ⟨56, 2, dl (lenc Rule.pd i)⟩) :: t) h ?_ ?_
 ·intro _ hj_2
  refine sg fun K k => ?_
  refine oo ?_
  refine AOps.nil (k _ ?_)
  refine AWp.block ?_
  obtain ⟨x_7, hl_4, h2_5⟩ := bind_some hj_2
  refine lp (S := (Int × (List Rule))) [0] [] (fun i t => (3, .slc 1000 0 i.2.length) :: (4, .d (.int .i64 i.1)) :: t) (fun i t => (1000, ⟨56, 2, dl (lenc Rule.pd i.2)⟩) :: t) hl_4 ?_ ?_; exact sb; clear hl_4
  rintro ⟨i1, L2⟩ _ hb_6; unfold m_cocketlaw02_copied_l1 at hb_6; try dsimp only at hb_6
  try dsimp only
  refine AWp.seq fun _ K_9 => ?_
  refine sg fun K k => ?_
  iterate 4 refine oo ?_
  refine AOps.nil (k _ ?_)
  refine cd hb_6 (fun hb_6 => ?_) (fun hb_6 => ?_)
  ·refine AWp.skip ?_
   refine K_9 _ ?_
   refine AWp.seq fun _ K_11 => ?_
   refine AWp.block ?_
   refine sg fun K k => ?_
   obtain ⟨e1, ⟨f_12, f_13, f_14, f_15⟩, hb_6⟩ := idx_bind hb_6
   iterate 4 refine oo ?_
   refine oo ?_ (by intro K k; simp (disch := omega) only [go_sem, f_14, ↓reduceIte]; exact k)
   iterate 3 refine oo ?_
   refine AOps.sub (Sub.voidCell 1001 0 61 2 1002 (x := ⟨56, 2, [.d (.agg [.nilslice, (.int .i64 e1.Code)])]⟩) (p := .d (.agg [.nilslice, (.int .i64 e1.Code)])) (cs := [.d .nilslice, .d (.int .i64 e1.Code)]) rfl (Nat.le_of_ble_eq_true rfl) rfl rfl rfl rfl rfl (by decide) (by decide)) ?_
   simp only [hput, List.set_cons_succ, List.set_cons_zero, reduceCtorEq, ↓reduceIte, Nat.reduceAdd, Nat.reduceMul, Nat.reduceLT, Nat.reduceLeDiff, Nat.reduceEqDiff, Nat.reduceBEq, Int.reduceToNat]
   refine AOps.nil (k _ ?_)
   refine sdX mo [(1002, [19, 25, 1001001])] fun K k => ?_
   obtain ⟨e2, ⟨f_16, f_17, f_18, f_19⟩, hb_6⟩ := idx_bind hb_6
   iterate 6 (refine dd ?_ (by intro K k; simp (disch := omega) only [go_sem, true_or, or_true, and_self, true_and, and_true, ↓reduceIte]; exact k))
   refine dd ?_ (by intro K k; simp (disch := omega) only [go_sem, f_18, true_or, or_true, and_self, true_and, and_true, ↓reduceIte]; exact k)
   obtain ⟨hg_20, hb_6⟩ := guardO_some hb_6
   refine dapH [19, 25, 1001001] [(1001, ⟨56, 2, [.agg [.slc 1002 0 0, .d (.int .i64 e1.Code)]]⟩)] (dl (lenc Band.pd e2.Bands)) se54 ?_
   iterate 2 (refine dd ?_ (by intro K k; simp (disch := omega) only [go_sem, true_or, or_true, and_self, true_and, and_true, ↓reduceIte]; exact k))
   refine DOps.nil (by kernel_rfl) (k _ ?_)
   refine AWp.reg ?_
   iterate 2 refine oo ?_
   refine AOps.sub (τ := ⟨[(0, .d (.imm 2 (lenc Rule.pd t1))), (4, .d (.int .i64 i1)), (27, .slc 1000 0 L2.length), (28, .d (.agg [(.imm 2 (lenc Band.pd e2.Bands)), (.int .i64 e1.Code)]))], [(1000, ⟨56, 2, dl (lenc Rule.pd L2)⟩)], [], none⟩) sc ?_
   refine ol ?_
   obtain ⟨hg_21, hb_6⟩ := guardO_some hb_6
   iterate 2 refine oo ?_
   refine AOps.nil ?_
   refine K_11 _ ?_
   refine AWp.reg ?_
   iterate 3 refine oo ?_
   refine AOps.nil ?_
   exact ln hb_6 sb
  ·refine AWp.exit ?_
   refine lx hb_6 fun hx => ?_; cases hx; try dsimp only at h2_5
   cases h2_5; exact sb
 ·rintro L1 h; dsimp only at h ⊢
  refine sg fun K k => ?_
  iterate 2 refine oo ?_
  refine AOps.nil (k _ ?_)
  refine AWp.ret ?_
  cases h; exact rtRow (hn := by rw [lenc_length] <;> rfl)
end Go.Pv.Tryd

namespace Go.Pv.Tryd
open Go.Proofs Go.Pv
theorem m_tariff_differ_1_ok (t1 : (List Rule)) (i1 : Int) (r : Int) (h : m_tariff_differ_1 t1 i1 = some r) : PureFn Tryd.prog G 94 [.d (.imm 2 (lenc Rule.pd t1)), .d (.int .i64 i1)] (.d (.int .i64 r)) := by
 unfold m_tariff_differ_1 at h
 refine pf Tryd.func94 Tryd.ntmps94 ?_
 refine sg fun K k => ?_
 refine oo ?_
 refine AOps.nil (k _ ?_)
 refine AWp.seq fun _ K_1 => ?_
 refine sg fun K k => ?_
 iterate 2 refine oo ?_
 refine AOps.nil (k _ ?_)
 refine cd h (fun h => ?_) (fun h => ?_)
 ·refine sg fun K k => ?_
  refine oo ?_
  refine AOps.nil (k _ ?_)
  refine AWp.ret ?_
  cases h; exact rt
 ·refine AWp.skip ?_
  refine K_1 _ ?_
  refine sg fun K k => ?_
  obtain ⟨e1, ⟨f_3, f_4, f_5, f_6⟩, h⟩ := idx_bind h
  iterate 4 refine oo ?_
  refine oo ?_ (by intro K k; simp (disch := omega) only [go_sem, f_5, ↓reduceIte]; exact k)
  refine oo ?_
  refine AOps.nil (k _ ?_)
  refine AWp.ret ?_
  cases h; exact rt
end Go.Pv.Tryd

namespace Go.Pv.Tryd
open Go.Proofs Go.Pv
theorem m_tariff_differ_2_f94_ok (i1 : Int) (j1 : Int) (k1 : (List Rule)) (k2 : (List Rule)) (r : Bool) (h : m_tariff_differ_2_f94 i1 j1 k1 k2 = some r) : PureFn Tryd.prog G 95 [.d (.int .i64 i1), .d (.int .i64 j1), .dptr 1 [(.fn (.func 94))] 0 0, .dptr 1 [(.imm 2 (lenc Rule.pd k1))] 0 0, .dptr 1 [(.imm 2 (lenc Rule.pd k2))] 0 0] (.d (.bool r)) := by
 unfold m_tariff_differ_2_f94 at h
 refine pf Tryd.func95 Tryd.ntmps95 ?_
 refine sg fun K k => ?_
 refine oo ?_
 refine AOps.nil (k _ ?_)
 refine sd mo fun K k => ?_
 iterate 3 refine dd ?_
 obtain ⟨r1, hx_1, h⟩ := bind_some h
 refine dclC (m_tariff_differ_1_ok k1 i1 _ hx_1) ?_
 iterate 3 refine dd ?_
 refine DOps.stop (by kernel_rfl) ?_
 obtain ⟨r2, hx_2, h⟩ := bind_some h
 refine clV (m_tariff_differ_1_ok k2 j1 _ hx_2) ?_
 iterate 2 refine oo ?_
 refine AOps.nil (k _ ?_)
 refine AWp.ret ?_
 cases h; exact rt
end Go.Pv.Tryd

namespace Go.Pv.Tryd
open Go.Proofs Go.Pv
set_option maxHeartbeats 4000000 in
theorem m_tariff_walker_find_1_h_f95_f94_ok (n : Nat) : ∀ (o1 : Walker) (o2 : (List Rule)) (o3 : (List Rule)) (m1 : (List (Arr3_Int × Bool))) (mark1 : Int) (a1 : Int) (b1 : Int) (r : ((List Int) × Bool × (List (Arr3_Int × Bool)))) (h : m_tariff_walker_find_1_h_f95_f94 n o1 o2 o3 m1 mark1 a1 b1 = some r), ObjFn Tryd.prog G 79 [.d (.int .i64 mark1), .d (.int .u32 a1), .d (.int .u32 b1), .ptr 0 0 0, .ptr 1 0 0, .ptr 2 0 0, .ptr 3 0 0] [(0, ⟨72, 3, [.d (.agg [(.int .i64 o1.k), (.imm 2 (lenc Rule.pd o1.s)), (.imm 2 (lenc Rule.pd o1.t))])]⟩), (1, ⟨74, 1, [.func (.func 95) [.dptr 1 [(.fn (.func 94))] 0 0, .dptr 1 [(.imm 2 (lenc Rule.pd o2))] 0 0, .dptr 1 [(.imm 2 (lenc Rule.pd o3))] 0 0]]⟩), (2, ⟨117, 1, [.mp 4]⟩), (3, ⟨118, 1, [.func (.func 79) [.ptr 0 0 0, .ptr 1 0 0, .ptr 2 0 0, .ptr 3 0 0]]⟩), (4, ⟨117, 0, mels Arr3_Int.pd PD.bool m1⟩)] (.tuple [.d (.imm 1 (lenc (PD.int .i64) r.1)), .d (.bool r.2.1)]) [(0, ⟨72, 3, [.d (.agg [(.int .i64 o1.k), (.imm 2 (lenc Rule.pd o1.s)), (.imm 2 (lenc Rule.pd o1.t))])]⟩), (1, ⟨74, 1, [.func (.func 95) [.dptr 1 [(.fn (.func 94))] 0 0, .dptr 1 [(.imm 2 (lenc Rule.pd o2))] 0 0, .dptr 1 [(.imm 2 (lenc Rule.pd o3))] 0 0]]⟩), (2, ⟨117, 1, [.mp 4]⟩), (3, ⟨118, 1, [.func (.func 79) [.ptr 0 0 0, .ptr 1 0 0, .ptr 2 0 0, .ptr 3 0 0]]⟩), (4, ⟨117, 0, mels Arr3_Int.pd PD.bool r.2.2⟩)] := by
 induction n with
 | zero => intro o1 o2 o3 m1 mark1 a1 b1 r h; cases h
 | succ n ih =>
  intro o1 o2 o3 m1 mark1 a1 b1 r h
  replace h : m_tariff_walker_find_1_h_f95_f94_b (m_tariff_walker_find_1_h_f95_f94 n) o1 o2 o3 m1 mark1 a1 b1 = some r := h
  unfold m_tariff_walker_find_1_h_f95_f94_b at h
  refine ObjFn.pf Tryd.func79 Tryd.ntmps79 ?_
  refine sg fun K k => ?_
  iterate 2 refine oo ?_
  refine AOps.nil (k _ ?_)
  refine AWp.seq fun _ K_1 => ?_
  refine sg fun K k => ?_
  iterate 4 refine oo ?_
  refine AOps.nil (k _ ?_)
  refine cd h (fun h => ?_) (fun h => ?_)
  ·refine sd mo fun K k => ?_
   iterate 2 refine dd ?_
   obtain ⟨r1, hx_3, h⟩ := bind_some h
   refine dcl (m_tariff_set_first_ok a1 _ hx_3) ?_
   refine dd ?_
   obtain ⟨r2, hx_4, h⟩ := bind_some h
   refine dcl (m_tariff_set_first_ok b1 _ hx_4) ?_
   refine DOps.stop (by kernel_rfl) ?_
   obtain ⟨r3, hx_5, h⟩ := bind_some h
   refine clC (m_tariff_differ_2_f94_ok r1 r2 o2 o3 _ hx_5) ?_
   iterate 2 refine oo ?_
   refine AOps.nil (k _ ?_)
   refine AWp.sub (τ := ⟨[(10, .d (.imm 1 (lenc (PD.int .i64) []))), (11, .d (.bool r3))], [(0, ⟨72, 3, [.d (.agg [(.int .i64 o1.k), (.imm 2 (lenc Rule.pd o1.s)), (.imm 2 (lenc Rule.pd o1.t))])]⟩), (1, ⟨74, 1, [.func (.func 95) [.dptr 1 [(.fn (.func 94))] 0 0, .dptr 1 [(.imm 2 (lenc Rule.pd o2))] 0 0, .dptr 1 [(.imm 2 (lenc Rule.pd o3))] 0 0]]⟩), (2, ⟨117, 1, [.mp 4]⟩), (3, ⟨118, 1, [.func (.func 79) [.ptr 0 0 0, .ptr 1 0 0, .ptr 2 0 0, .ptr 3 0 0]]⟩), (4, ⟨117, 0, mels Arr3_Int.pd PD.bool m1⟩)], [], none⟩) sc ?_
   refine AWp.ret ?_
   cases h; exact rtO
  ·refine AWp.skip ?_
   refine K_1 _ ?_
   refine sg fun K k => ?_
   iterate 8 refine oo ?_
   refine AOps.nil (k _ ?_)
   refine AWp.seq fun _ K_6 => ?_
   refine sg fun K k => ?_
   iterate 2 refine oo ?_
   refine oml (k := (⟨mark1, (IntKind.i64.wrap a1), (IntKind.i64.wrap b1)⟩ : Arr3_Int)) (L := m1) (v0 := false) (encV := PD.bool) KE121 MU117 ty4 MZ4 (fun _ _ => .bool _) ?_
   refine AOps.nil (k _ ?_)
   refine cd h (fun h => ?_) (fun h => ?_)
   ·refine sg fun K k => ?_
    iterate 2 refine oo ?_
    refine AOps.nil (k _ ?_)
    refine AWp.sub (τ := ⟨[(10, .d (.imm 1 (lenc (PD.int .i64) []))), (11, .d (.bool false))], [(0, ⟨72, 3, [.d (.agg [(.int .i64 o1.k), (.imm 2 (lenc Rule.pd o1.s)), (.imm 2 (lenc Rule.pd o1.t))])]⟩), (1, ⟨74, 1, [.func (.func 95) [.dptr 1 [(.fn (.func 94))] 0 0, .dptr 1 [(.imm 2 (lenc Rule.pd o2))] 0 0, .dptr 1 [(.imm 2 (lenc Rule.pd o3))] 0 0]]⟩), (2, ⟨117, 1, [.mp 4]⟩), (3, ⟨118, 1, [.func (.func 79) [.ptr 0 0 0, .ptr 1 0 0, .ptr 2 0 0, .ptr 3 0 0]]⟩), (4, ⟨117, 0, mels Arr3_Int.pd PD.bool m1⟩)], [], none⟩) sc ?_
    refine AWp.ret ?_
    cases h; exact rtO
   ·refine AWp.skip ?_
    refine K_6 _ ?_
    refine sg fun K k => ?_
    refine oo ?_
    refine AOps.nil (k _ ?_)
    refine jm (ι := (List (Arr3_Int × Bool))) [5, 12] [0, 1, 3, 1000] (fun i t => t) (fun i t => (2, ⟨117, 1, [.mp 4]⟩) :: (4, ⟨117, 0, mels Arr3_Int.pd PD.bool i⟩) :: t) .inl h ?_ ?_
    ·intro _ hj_9 h
     refine sg fun K k => ?_
     iterate 5 refine oo ?_
     refine ol ?_
     obtain ⟨r4, hx_10, hj_9⟩ := bind_some hj_9
     refine cl (m_tariff_cuts_ok mark1 [o1.s, o1.t] _ hx_10) ?_
     iterate 2 refine oo ?_
     refine AOps.nil (k _ ?_)
     refine AWp.block ?_
     obtain ⟨x_15, hl_12, h2_13⟩ := bind_some hj_9
     refine lp (S := (Int × Int × (List (Arr3_Int × Bool)))) [0, 1, 2, 3, 5, 6, 12, 43, 44] [0, 1, 3, 1000] (fun i t => (13, .d (.int .i64 i.1)) :: (45, .d (.int .i64 i.2.1)) :: t) (fun i t => (2, ⟨117, 1, [.mp 4]⟩) :: (4, ⟨117, 0, mels Arr3_Int.pd PD.bool i.2.2⟩) :: t) hl_12 ?_ ?_; exact sb; clear hl_12
     rintro ⟨from1, v1, M2⟩ _ hb_14; unfold m_tariff_walker_find_1_h_f95_f94_l1 at hb_14; try dsimp only at hb_14
     try dsimp only
     refine sg fun K k => ?_
     refine oo ?_
     refine AOps.nil (k _ ?_)
     refine AWp.seq fun _ K_17 => ?_
     refine cd hb_14 (fun hb_14 => ?_) (fun hb_14 => ?_)
     ·refine AWp.skip ?_
      refine K_17 _ ?_
      refine AWp.seq fun _ K_19 => ?_
      refine AWp.block ?_
      refine sg fun K k => ?_
      obtain ⟨e1, ⟨f_20, f_21, f_22, f_23⟩, hb_14⟩ := idx_bind hb_14
      refine oo ?_
      refine oo ?_ (by intro K k; simp (disch := omega) only [go_sem, f_22, ↓reduceIte]; exact k)
      refine oo ?_
      refine AOps.nil (k _ ?_)
      refine AWp.seq fun _ K_24 => ?_
      refine sd mo fun K k => ?_
      iterate 8 refine dd ?_
      obtain ⟨r5, hx_25, hb_14⟩ := bind_some hb_14
      refine dcl (m_tariff_fits_ok o1.s mark1 from1 _ hx_25) ?_
      iterate 6 refine dd ?_
      obtain ⟨r6, hx_26, hb_14⟩ := bind_some hb_14
      refine dcl (m_tariff_fits_ok o1.t mark1 from1 _ hx_26) ?_
      refine dd ?_
      refine DOps.bar (by kernel_rfl) ?_
      refine BOps.hard (by kernel_rfl) ?_
      obtain ⟨r7, hx_27, hb_14⟩ := bind_some hb_14
      refine clU [(0, 0), (1, 1), (2, 2), (3, 3), (4, 4)] [] (ih o1 o2 o3 M2 (IntKind.i64.wrap (mark1 + 1)) (IntKind.u32.wrap ↑(BitVec.ofInt IntKind.u32.bits a1 &&& BitVec.ofInt IntKind.u32.bits r5).toNat) (IntKind.u32.wrap ↑(BitVec.ofInt IntKind.u32.bits b1 &&& BitVec.ofInt IntKind.u32.bits r6).toNat) _ hx_27) ?_
      refine AOps.nil ?_
      refine BOps.draw [] trivial (Nat.le_of_ble_eq_true rfl) ?_
      iterate 5 refine dd ?_
      refine DOps.nil (by kernel_rfl) (k _ ?_)
      refine sg fun K k => ?_
      refine oo ?_
      refine AOps.nil (k _ ?_)
      refine cd hb_14 (fun hb_14 => ?_) (fun hb_14 => ?_)
      ·refine sg fun K k => ?_
       obtain ⟨hg_29, hb_14⟩ := guardO_some hb_14
       iterate 6 refine oo ?_
       refine AOps.nil (k _ ?_)
       refine AWp.sub (τ := ⟨[(10, .d (.imm 1 (lenc (PD.int .i64) ([from1] ++ r7.1)))), (11, .d (.bool true))], [(0, ⟨72, 3, [.d (.agg [(.int .i64 o1.k), (.imm 2 (lenc Rule.pd o1.s)), (.imm 2 (lenc Rule.pd o1.t))])]⟩), (1, ⟨74, 1, [.func (.func 95) [.dptr 1 [(.fn (.func 94))] 0 0, .dptr 1 [(.imm 2 (lenc Rule.pd o2))] 0 0, .dptr 1 [(.imm 2 (lenc Rule.pd o3))] 0 0]]⟩), (2, ⟨117, 1, [.mp 4]⟩), (3, ⟨118, 1, [.func (.func 79) [.ptr 0 0 0, .ptr 1 0 0, .ptr 2 0 0, .ptr 3 0 0]]⟩), (4, ⟨117, 0, mels Arr3_Int.pd PD.bool r7.2.2⟩)], [], none⟩) sc ?_
       refine AWp.ret ?_
       refine lx hb_14 fun hx => ?_; cases hx; try dsimp only at h2_13
       cases h2_13; try dsimp only at h
       cases h; exact rtO
      ·refine AWp.skip ?_
       refine K_24 _ ?_
       refine AWp.reg ?_
       iterate 2 refine oo ?_
       refine AOps.nil ?_
       refine K_19 _ ?_
       refine AWp.reg ?_
       iterate 2 refine oo ?_
       refine AOps.nil ?_
       exact ln hb_14 sb
     ·refine AWp.exit ?_
      refine lx hb_14 fun hx => ?_; cases hx; try dsimp only at h2_13
      exact ln h2_13 sb
    ·rintro M1 h; dsimp only at h ⊢
     refine sg fun K k => ?_
     iterate 2 refine oo ?_
     refine oms (k := (⟨mark1, (IntKind.i64.wrap a1), (IntKind.i64.wrap b1)⟩ : Arr3_Int)) (L := M1) (v := true) (encV := PD.bool) KE121 MU117 ?_
     refine AOps.nil (k _ ?_)
     refine sg fun K k => ?_
     iterate 2 refine oo ?_
     refine AOps.nil (k _ ?_)
     refine AWp.sub (τ := ⟨[(10, .d (.imm 1 (lenc (PD.int .i64) []))), (11, .d (.bool false))], [(0, ⟨72, 3, [.d (.agg [(.int .i64 o1.k), (.imm 2 (lenc Rule.pd o1.s)), (.imm 2 (lenc Rule.pd o1.t))])]⟩), (1, ⟨74, 1, [.func (.func 95) [.dptr 1 [(.fn (.func 94))] 0 0, .dptr 1 [(.imm 2 (lenc Rule.pd o2))] 0 0, .dptr 1 [(.imm 2 (lenc Rule.pd o3))] 0 0]]⟩), (2, ⟨117, 1, [.mp 4]⟩), (3, ⟨118, 1, [.func (.func 79) [.ptr 0 0 0, .ptr 1 0 0, .ptr 2 0 0, .ptr 3 0 0]]⟩), (4, ⟨117, 0, mels Arr3_Int.pd PD.bool (mset (⟨mark1, (IntKind.i64.wrap a1), (IntKind.i64.wrap b1)⟩ : Arr3_Int) true M1)⟩)], [], none⟩) sc ?_
     refine AWp.ret ?_
     cases h; exact rtO
end Go.Pv.Tryd

namespace Go.Pv.Tryd
open Go.Proofs Go.Pv
theorem m_tariff_walker_find_f95_f94_ok (w1 : Walker) (wanted1 : (List Rule)) (wanted2 : (List Rule)) (r : ((List Int) × Bool)) (h : m_tariff_walker_find_f95_f94 w1 wanted1 wanted2 = some r) : PureFn Tryd.prog G 49 [.d (.agg [(.int .i64 w1.k), (.imm 2 (lenc Rule.pd w1.s)), (.imm 2 (lenc Rule.pd w1.t))]), .func (.func 95) [.dptr 1 [(.fn (.func 94))] 0 0, .dptr 1 [(.imm 2 (lenc Rule.pd wanted1))] 0 0, .dptr 1 [(.imm 2 (lenc Rule.pd wanted2))] 0 0]] (.tuple [.d (.imm 1 (lenc (PD.int .i64) r.1)), .d (.bool r.2)]) := by
 unfold m_tariff_walker_find_f95_f94 at h
 refine pf Tryd.func49 Tryd.ntmps49 ?_
 refine sg fun K k => ?_
 iterate 4 refine oo ?_
 refine AOps.nil (k _ ?_)
 refine sg fun K k => ?_
 refine omk (α := Arr3_Int) (β := Bool) Arr3_Int.pd PD.bool 1002 ?_
 iterate 2 refine oo ?_
 refine AOps.nil (k _ ?_)
 refine sg fun K k => ?_
 refine oo ?_
 refine AOps.nil (k _ ?_)
 refine sg fun K k => ?_
 iterate 2 refine oo ?_
 refine AOps.nil (k _ ?_)
 refine sd mo fun K k => ?_
 iterate 3 refine dd ?_
 obtain ⟨r1, hx_1, h⟩ := bind_some h
 refine dcl (m_tariff_all_ok w1.s _ hx_1) ?_
 iterate 2 refine dd ?_
 obtain ⟨r2, hx_2, h⟩ := bind_some h
 refine dcl (m_tariff_all_ok w1.t _ hx_2) ?_
 refine DOps.bar (by kernel_rfl) ?_
 refine BOps.hard (by kernel_rfl) ?_
 obtain ⟨r3, hx_3, h⟩ := bind_some h
 refine clU [(0, 1000), (1, 1001), (2, 1003), (3, 1004), (4, 1002)] [] (m_tariff_walker_find_1_h_f95_f94_ok 100 w1 wanted1 wanted2 [] 0 r1 r2 _ hx_3) ?_
 refine AOps.nil ?_
 refine BOps.draw [] trivial (Nat.le_of_ble_eq_true rfl) ?_
 iterate 4 refine dd ?_
 refine DOps.nil (by kernel_rfl) (k _ ?_)
 refine AWp.ret ?_
 cases h; exact rt
end Go.Pv.Tryd

namespace Go.Pv.Tryd
open Go.Proofs Go.Pv
theorem m_tariff_differ_ok (k1 : Int) (s1 : (List Rule)) (t1 : (List Rule)) (r : ((List Int) × Bool)) (h : m_tariff_differ k1 s1 t1 = some r) : PureFn Tryd.prog G 61 [.d (.int .i64 k1), .d (.imm 2 (lenc Rule.pd s1)), .d (.imm 2 (lenc Rule.pd t1))] (.tuple [.d (.imm 1 (lenc (PD.int .i64) r.1)), .d (.bool r.2)]) := by
 unfold m_tariff_differ at h
 refine pf Tryd.func61 Tryd.ntmps61 ?_
 refine sg fun K k => ?_
 iterate 4 refine oo ?_
 refine AOps.nil (k _ ?_)
 refine sg fun K k => ?_
 iterate 2 refine oo ?_
 refine AOps.nil (k _ ?_)
 refine sg fun K k => ?_
 iterate 5 refine oo ?_
 refine AOps.sub (τ := ⟨[(12, .d (.agg [(.int .i64 k1), (.imm 2 (lenc Rule.pd s1)), (.imm 2 (lenc Rule.pd t1))])), (13, .func (.func 95) [.dptr 1 [(.fn (.func 94))] 0 0, .dptr 1 [(.imm 2 (lenc Rule.pd s1))] 0 0, .dptr 1 [(.imm 2 (lenc Rule.pd t1))] 0 0])], [], [], none⟩) sc ?_
 obtain ⟨r1, hx_1, h⟩ := bind_some h
 refine clC (m_tariff_walker_find_f95_f94_ok (⟨k1, s1, t1⟩ : Walker) s1 t1 _ hx_1) ?_
 iterate 4 refine oo ?_
 refine AOps.nil (k _ ?_)
 refine AWp.ret ?_
 cases h; exact rt
end Go.Pv.Tryd

namespace Go.Pv.Tryd
open Go.Proofs Go.Pv
theorem m_tariff_Differ_ok (k1 : Int) (s1 : (List Rule)) (t1 : (List Rule)) (r : ((List Int) × Int)) (h : m_tariff_Differ k1 s1 t1 = some r) : PureFn Tryd.prog G 32 [.d (.int .i64 k1), .d (.imm 2 (lenc Rule.pd s1)), .d (.imm 2 (lenc Rule.pd t1))] (.tuple [.d (.imm 1 (lenc (PD.int .i64) r.1)), .d (.int .i64 r.2)]) := by
 unfold m_tariff_Differ at h
 refine pf Tryd.func32 Tryd.ntmps32 ?_
 refine sg fun K k => ?_
 iterate 2 refine oo ?_
 refine AOps.nil (k _ ?_)
 refine AWp.seq fun _ K_1 => ?_
 refine sg fun K k => ?_
 iterate 3 refine oo ?_
 refine ol ?_
 obtain ⟨r1, hx_2, h⟩ := bind_some h
 refine cl (m_tariff_checked_ok k1 [s1, t1] _ hx_2) ?_
 refine oo ?_
 refine AOps.nil (k _ ?_)
 refine sg fun K k => ?_
 iterate 2 refine oo ?_
 refine AOps.nil (k _ ?_)
 refine cd h (fun h => ?_) (fun h => ?_)
 ·refine sg fun K k => ?_
  iterate 3 refine oo ?_
  refine AOps.nil (k _ ?_)
  refine AWp.ret ?_
  cases h; exact rt
 ·refine AWp.skip ?_
  refine K_1 _ ?_
  refine sg fun K k => ?_
  iterate 3 refine oo ?_
  obtain ⟨r2, hx_4, h⟩ := bind_some h
  refine cl (m_tariff_differ_ok k1 s1 t1 _ hx_4) ?_
  iterate 2 refine oo ?_
  obtain ⟨r3, hx_5, h⟩ := bind_some h
  refine cl (m_tariff_found_ok r2.1 r2.2 _ hx_5) ?_
  iterate 4 refine oo ?_
  refine AOps.nil (k _ ?_)
  refine AWp.ret ?_
  cases h; exact rt
end Go.Pv.Tryd

namespace Go.Pv.Tryd
open Go.Proofs Go.Pv
theorem m_tariff_thing_1_ok (n1 : Int) (r : Bool) (h : m_tariff_thing_1 n1 = some r) : PureFn Tryd.prog G 98 [.d (.int .i64 n1)] (.d (.bool r)) := by
 unfold m_tariff_thing_1 at h
 refine pf Tryd.func98 Tryd.ntmps98 ?_
 refine sg fun K k => ?_
 refine oo ?_
 refine AOps.nil (k _ ?_)
 refine sg fun K k => ?_
 iterate 3 refine oo ?_
 refine ct 3 [] [] (fun  t => (8, .d (.bool ((decide (n1 < 0)) || (decide (999 < n1))))) :: t) ?_ ?_
 ·rcases bt (decide (n1 < 0)) with hg_2 | hg_2
  ·rw [hg_2]
   iterate 3 refine oo ?_
   refine AOps.nil ?_
   exact sb
  ·rw [hg_2]
   iterate 3 refine oo ?_
   refine AOps.nil ?_
   exact sb
 refine oo ?_
 refine AOps.nil (k _ ?_)
 refine AWp.ret ?_
 cases h; exact rt
end Go.Pv.Tryd

namespace Go.Pv.Tryd
open Go.Proofs Go.Pv
theorem m_slices_IndexFunc_70_f98_ok (s1 : (List Int)) (r : Int) (h : m_slices_IndexFunc_70_f98 s1 = some r) : PureFn Tryd.prog G 70 [.d (.imm 1 (lenc (PD.int .i64) s1)), .d (.fn (.func 98))] (.d (.int .i64 r)) := by
 unfold m_slices_IndexFunc_70_f98 at h
 refine pf Tryd.func70 Tryd.ntmps70 ?_
 refine sg fun K k => ?_
 refine oo ?_
 refine AOps.nil (k _ ?_)
 refine jm (ι := Unit) [] [] (fun i t => t) (fun i t => t) .inl h ?_ ?_
 ·intro _ hj_2 h
  refine sg fun K k => ?_
  iterate 3 refine oo ?_
  refine AOps.nil (k _ ?_)
  refine AWp.block ?_
  obtain ⟨x_7, hl_4, h2_5⟩ := bind_some hj_2
  refine lp (S := Int) [0, 1, 7] [] (fun i t => (8, .d (.int .i64 i)) :: t) (fun i t => t) hl_4 ?_ ?_; exact sb; clear hl_4
  rintro v1 _ hb_6; unfold m_slices_IndexFunc_70_f98_l1 at hb_6; try dsimp only at hb_6
  try dsimp only
  refine sg fun K k => ?_
  refine oo ?_
  refine AOps.nil (k _ ?_)
  refine AWp.seq fun _ K_9 => ?_
  refine cd hb_6 (fun hb_6 => ?_) (fun hb_6 => ?_)
  ·refine AWp.skip ?_
   refine K_9 _ ?_
   refine AWp.seq fun _ K_11 => ?_
   refine AWp.block ?_
   refine sg fun K k => ?_
   iterate 2 refine oo ?_
   refine AOps.nil (k _ ?_)
   refine sg fun K k => ?_
   obtain ⟨e1, ⟨f_12, f_13, f_14, f_15⟩, hb_6⟩ := idx_bind hb_6
   iterate 4 refine oo ?_
   refine oo ?_ (by intro K k; simp (disch := omega) only [go_sem, f_14, ↓reduceIte]; exact k)
   obtain ⟨r1, hx_16, hb_6⟩ := bind_some hb_6
   refine clV (m_tariff_thing_1_ok e1 _ hx_16) ?_
   refine AOps.nil (k _ ?_)
   refine cd hb_6 (fun hb_6 => ?_) (fun hb_6 => ?_)
   ·refine sg fun K k => ?_
    iterate 2 refine oo ?_
    refine AOps.nil (k _ ?_)
    refine AWp.ret ?_
    refine lx hb_6 fun hx => ?_; cases hx; try dsimp only at h2_5
    cases h2_5; try dsimp only at h
    cases h; exact rt
   ·refine AWp.skip ?_
    refine K_11 _ ?_
    refine AWp.reg ?_
    iterate 2 refine oo ?_
    refine AOps.nil ?_
    exact ln hb_6 sb
  ·refine AWp.exit ?_
   refine lx hb_6 fun hx => ?_; cases hx; try dsimp only at h2_5
   exact ln h2_5 sb
 ·rintro _ h; dsimp only at h ⊢
  refine sg fun K k => ?_
  refine oo ?_
  refine AOps.nil (k _ ?_)
  refine AWp.ret ?_
  cases h; exact rt
end Go.Pv.Tryd

namespace Go.Pv.Tryd
open Go.Proofs Go.Pv
theorem m_slices_ContainsFunc_97_f98_ok (s1 : (List Int)) (r : Bool) (h : m_slices_ContainsFunc_97_f98 s1 = some r) : PureFn Tryd.prog G 97 [.d (.imm 1 (lenc (PD.int .i64) s1)), .d (.fn (.func 98))] (.d (.bool r)) := by
 unfold m_slices_ContainsFunc_97_f98 at h
 refine pf Tryd.func97 Tryd.ntmps97 ?_
 refine sg fun K k => ?_
 refine oo ?_
 refine AOps.nil (k _ ?_)
 refine sg fun K k => ?_
 iterate 2 refine oo ?_
 obtain ⟨r1, hx_1, h⟩ := bind_some h
 refine clC (m_slices_IndexFunc_70_f98_ok s1 _ hx_1) ?_
 iterate 2 refine oo ?_
 refine AOps.nil (k _ ?_)
 refine AWp.ret ?_
 cases h; exact rt
end Go.Pv.Tryd

namespace Go.Pv.Tryd
open Go.Proofs Go.Pv
theorem m_tariff_thing_ok (k1 : Int) (l1 : (List Int)) (r : Bool) (h : m_tariff_thing k1 l1 = some r) : PureFn Tryd.prog G 63 [.d (.int .i64 k1), .d (.imm 1 (lenc (PD.int .i64) l1))] (.d (.bool r)) := by
 unfold m_tariff_thing at h
 refine pf Tryd.func63 Tryd.ntmps63 ?_
 refine sg fun K k => ?_
 refine oo ?_
 refine AOps.nil (k _ ?_)
 refine sg fun K k => ?_
 iterate 5 refine oo ?_
 obtain ⟨b1, hc_1, h⟩ := bind_some h
 refine ct 4 [] [] (fun  t => (13, .d (.bool b1)) :: t) ?_ ?_
 ·rcases bt (decide ((l1.length : Int) = k1)) with hg_3 | hg_3
  ·rw [hg_3]
   rw [hg_3, cond_true] at hc_1
   refine oo ?_
   obtain ⟨r1, hx_2, hc_1⟩ := bind_some hc_1
   refine clC (m_slices_ContainsFunc_97_f98_ok l1 _ hx_2) ?_
   iterate 2 refine oo ?_
   refine AOps.nil ?_
   cases hc_1
   exact sb
  ·rw [hg_3]
   rw [hg_3, cond_false] at hc_1
   iterate 4 refine oo ?_
   refine AOps.nil ?_
   cases hc_1
   exact sb
 refine oo ?_
 refine AOps.nil (k _ ?_)
 refine AWp.ret ?_
 cases h; exact rt
end Go.Pv.Tryd

namespace Go.Pv.Tryd
open Go.Proofs Go.Pv
theorem m_tariff_decides_1_c_ok (r1 : Rule) (k1 : (List Int)) (r : Bool) (h : m_tariff_decides_1_c r1 k1 = some r) : PureFn Tryd.prog G 100 [.d (.agg [(.imm 2 (lenc Band.pd r1.Bands)), (.int .i64 r1.Code)]), .dptr 1 [(.imm 1 (lenc (PD.int .i64) k1))] 0 0] (.d (.bool r)) := by
 unfold m_tariff_decides_1_c at h
 refine pf Tryd.func100 Tryd.ntmps100 ?_
 refine sg fun K k => ?_
 iterate 2 refine oo ?_
 refine AOps.nil (k _ ?_)
 refine jm (ι := Unit) [] [] (fun i t => t) (fun i t => t) .inl h ?_ ?_
 ·intro _ hj_2 h
  refine sg fun K k => ?_
  iterate 4 refine oo ?_
  refine AOps.nil (k _ ?_)
  refine AWp.block ?_
  obtain ⟨x_7, hl_4, h2_5⟩ := bind_some hj_2
  refine lp (S := Int) [1, 7, 8] [] (fun i t => (9, .d (.int .i64 i)) :: t) (fun i t => t) hl_4 ?_ ?_; exact sb; clear hl_4
  rintro v1 _ hb_6; unfold m_tariff_decides_1_c_l1 at hb_6; try dsimp only at hb_6
  try dsimp only
  refine sg fun K k => ?_
  refine oo ?_
  refine AOps.nil (k _ ?_)
  refine AWp.seq fun _ K_9 => ?_
  refine cd hb_6 (fun hb_6 => ?_) (fun hb_6 => ?_)
  ·refine AWp.skip ?_
   refine K_9 _ ?_
   refine AWp.seq fun _ K_11 => ?_
   refine AWp.block ?_
   refine sg fun K k => ?_
   obtain ⟨e1, ⟨f_12, f_13, f_14, f_15⟩, hb_6⟩ := idx_bind hb_6
   iterate 2 refine oo ?_
   refine oo ?_ (by intro K k; simp (disch := omega) only [go_sem, f_14, ↓reduceIte]; exact k)
   iterate 3 refine oo ?_
   refine AOps.nil (k _ ?_)
   refine sd mo fun K k => ?_
   obtain ⟨e2, ⟨f_16, f_17, f_18, f_19⟩, hb_6⟩ := idx_bind hb_6
   iterate 3 refine dd ?_
   refine dd ?_ (by intro K k; simp (disch := omega) only [go_sem, f_18, ↓reduceIte]; exact k)
   iterate 4 refine dd ?_
   rcases bt (decide (e2 < e1.Lo)) with hg_20 | hg_20
   ·rw [hg_20]
    rw [hg_20, cond_true] at hb_6
    iterate 8 refine dd ?_
    refine DOps.nil (by kernel_rfl) (k _ ?_)
    refine cdt ?_
    refine sg fun K k => ?_
    refine oo ?_
    refine AOps.nil (k _ ?_)
    refine AWp.ret ?_
    refine lx hb_6 fun hx => ?_; cases hx; try dsimp only at h2_5
    cases h2_5; try dsimp only at h
    cases h; exact rt
   ·rw [hg_20]
    rw [hg_20, cond_false] at hb_6
    iterate 3 refine dd ?_
    refine dd ?_ (by intro K k; simp (disch := omega) only [go_sem, f_18, ↓reduceIte]; exact k)
    iterate 4 refine dd ?_
    refine DOps.nil (by kernel_rfl) (k _ ?_)
    refine cd hb_6 (fun hb_6 => ?_) (fun hb_6 => ?_)
    ·refine sg fun K k => ?_
     refine oo ?_
     refine AOps.nil (k _ ?_)
     refine AWp.ret ?_
     refine lx hb_6 fun hx => ?_; cases hx; try dsimp only at h2_5
     cases h2_5; try dsimp only at h
     cases h; exact rt
    ·refine AWp.skip ?_
     refine K_11 _ ?_
     refine AWp.reg ?_
     iterate 2 refine oo ?_
     refine AOps.nil ?_
     exact ln hb_6 sb
  ·refine AWp.exit ?_
   refine lx hb_6 fun hx => ?_; cases hx; try dsimp only at h2_5
   exact ln h2_5 sb
 ·rintro _ h; dsimp only at h ⊢
  refine sg fun K k => ?_
  refine oo ?_
  refine AOps.nil (k _ ?_)
  refine AWp.ret ?_
  cases h; exact rt
end Go.Pv.Tryd

namespace Go.Pv.Tryd
open Go.Proofs Go.Pv
theorem m_slices_IndexFunc_99_f100_ok (s1 : (List Rule)) (f1 : (List Int)) (r : Int) (h : m_slices_IndexFunc_99_f100 s1 f1 = some r) : PureFn Tryd.prog G 99 [.d (.imm 2 (lenc Rule.pd s1)), .func (.func 100) [.dptr 1 [(.imm 1 (lenc (PD.int .i64) f1))] 0 0]] (.d (.int .i64 r)) := by
 unfold m_slices_IndexFunc_99_f100 at h
 refine pf Tryd.func99 Tryd.ntmps99 ?_
 refine sg fun K k => ?_
 refine oo ?_
 refine AOps.nil (k _ ?_)
 refine jm (ι := Unit) [] [] (fun i t => t) (fun i t => t) .inl h ?_ ?_
 ·intro _ hj_2 h
  refine sg fun K k => ?_
  iterate 3 refine oo ?_
  refine AOps.nil (k _ ?_)
  refine AWp.block ?_
  obtain ⟨x_7, hl_4, h2_5⟩ := bind_some hj_2
  refine lp (S := Int) [0, 1, 7] [] (fun i t => (8, .d (.int .i64 i)) :: t) (fun i t => t) hl_4 ?_ ?_; exact sb; clear hl_4
  rintro v1 _ hb_6; unfold m_slices_IndexFunc_99_f100_l1 at hb_6; try dsimp only at hb_6
  try dsimp only
  refine sg fun K k => ?_
  refine oo ?_
  refine AOps.nil (k _ ?_)
  refine AWp.seq fun _ K_9 => ?_
  refine cd hb_6 (fun hb_6 => ?_) (fun hb_6 => ?_)
  ·refine AWp.skip ?_
   refine K_9 _ ?_
   refine AWp.seq fun _ K_11 => ?_
   refine AWp.block ?_
   refine sg fun K k => ?_
   iterate 2 refine oo ?_
   refine AOps.nil (k _ ?_)
   refine sg fun K k => ?_
   obtain ⟨e1, ⟨f_12, f_13, f_14, f_15⟩, hb_6⟩ := idx_bind hb_6
   iterate 4 refine oo ?_
   refine oo ?_ (by intro K k; simp (disch := omega) only [go_sem, f_14, ↓reduceIte]; exact k)
   obtain ⟨r1, hx_16, hb_6⟩ := bind_some hb_6
   refine clC (m_tariff_decides_1_c_ok e1 f1 _ hx_16) ?_
   refine AOps.nil (k _ ?_)
   refine cd hb_6 (fun hb_6 => ?_) (fun hb_6 => ?_)
   ·refine sg fun K k => ?_
    iterate 2 refine oo ?_
    refine AOps.nil (k _ ?_)
    refine AWp.ret ?_
    refine lx hb_6 fun hx => ?_; cases hx; try dsimp only at h2_5
    cases h2_5; try dsimp only at h
    cases h; exact rt
   ·refine AWp.skip ?_
    refine K_11 _ ?_
    refine AWp.reg ?_
    iterate 2 refine oo ?_
    refine AOps.nil ?_
    exact ln hb_6 sb
  ·refine AWp.exit ?_
   refine lx hb_6 fun hx => ?_; cases hx; try dsimp only at h2_5
   exact ln h2_5 sb
 ·rintro _ h; dsimp only at h ⊢
  refine sg fun K k => ?_
  refine oo ?_
  refine AOps.nil (k _ ?_)
  refine AWp.ret ?_
  cases h; exact rt
end Go.Pv.Tryd

namespace Go.Pv.Tryd
open Go.Proofs Go.Pv
theorem m_tariff_decides_ok (t1 : (List Rule)) (l1 : (List Int)) (r : Int) (h : m_tariff_decides t1 l1 = some r) : PureFn Tryd.prog G 64 [.d (.imm 2 (lenc Rule.pd t1)), .d (.imm 1 (lenc (PD.int .i64) l1))] (.d (.int .i64 r)) := by
 unfold m_tariff_decides at h
 refine pf Tryd.func64 Tryd.ntmps64 ?_
 refine sg fun K k => ?_
 iterate 2 refine oo ?_
 refine AOps.nil (k _ ?_)
 refine sg fun K k => ?_
 iterate 2 refine oo ?_
 refine AOps.sub (τ := ⟨[(5, .d (.imm 2 (lenc Rule.pd t1))), (6, .func (.func 100) [.dptr 1 [(.imm 1 (lenc (PD.int .i64) l1))] 0 0])], [], [], none⟩) sc ?_
 obtain ⟨r1, hx_1, h⟩ := bind_some h
 refine clC (m_slices_IndexFunc_99_f100_ok t1 l1 _ hx_1) ?_
 refine oo ?_
 refine AOps.nil (k _ ?_)
 refine AWp.ret ?_
 cases h; exact rt
end Go.Pv.Tryd

namespace Go.Pv.Tryd
open Go.Proofs Go.Pv
theorem m_tariff_Code_ok (k1 : Int) (t1 : (List Rule)) (l1 : (List Int)) (r : (Int × Int × Int)) (h : m_tariff_Code k1 t1 l1 = some r) : PureFn Tryd.prog G 36 [.d (.int .i64 k1), .d (.imm 2 (lenc Rule.pd t1)), .d (.imm 1 (lenc (PD.int .i64) l1))] (.tuple [.d (.int .i64 r.1), .d (.int .i64 r.2.1), .d (.int .i64 r.2.2)]) := by
 unfold m_tariff_Code at h
 refine pf Tryd.func36 Tryd.ntmps36 ?_
 refine sg fun K k => ?_
 iterate 3 refine oo ?_
 refine AOps.nil (k _ ?_)
 refine AWp.seq fun _ K_1 => ?_
 refine sg fun K k => ?_
 iterate 2 refine oo ?_
 refine ol ?_
 obtain ⟨r1, hx_2, h⟩ := bind_some h
 refine cl (m_tariff_checked_ok k1 [t1] _ hx_2) ?_
 refine oo ?_
 refine AOps.nil (k _ ?_)
 refine sg fun K k => ?_
 iterate 2 refine oo ?_
 refine AOps.nil (k _ ?_)
 refine cd h (fun h => ?_) (fun h => ?_)
 ·refine sg fun K k => ?_
  iterate 4 refine oo ?_
  refine AOps.nil (k _ ?_)
  refine AWp.ret ?_
  cases h; exact rt
 ·refine AWp.skip ?_
  refine K_1 _ ?_
  refine AWp.seq fun _ K_4 => ?_
  refine sg fun K k => ?_
  iterate 2 refine oo ?_
  obtain ⟨r2, hx_5, h⟩ := bind_some h
  refine cl (m_tariff_thing_ok k1 l1 _ hx_5) ?_
  refine oo ?_
  refine AOps.nil (k _ ?_)
  refine cd h (fun h => ?_) (fun h => ?_)
  ·refine sg fun K k => ?_
   iterate 3 refine oo ?_
   refine AOps.nil (k _ ?_)
   refine AWp.ret ?_
   cases h; exact rt
  ·refine AWp.skip ?_
   refine K_4 _ ?_
   refine sg fun K k => ?_
   iterate 2 refine oo ?_
   obtain ⟨r3, hx_7, h⟩ := bind_some h
   refine cl (m_tariff_decides_ok t1 l1 _ hx_7) ?_
   refine oo ?_
   refine AOps.nil (k _ ?_)
   refine AWp.seq fun _ K_8 => ?_
   refine sg fun K k => ?_
   iterate 2 refine oo ?_
   refine AOps.nil (k _ ?_)
   refine cd h (fun h => ?_) (fun h => ?_)
   ·refine sg fun K k => ?_
    iterate 3 refine oo ?_
    refine AOps.nil (k _ ?_)
    refine AWp.ret ?_
    cases h; exact rt
   ·refine AWp.skip ?_
    refine K_8 _ ?_
    refine sg fun K k => ?_
    obtain ⟨e1, ⟨f_10, f_11, f_12, f_13⟩, h⟩ := idx_bind h
    iterate 4 refine oo ?_
    refine oo ?_ (by intro K k; simp (disch := omega) only [go_sem, f_12, ↓reduceIte]; exact k)
    iterate 4 refine oo ?_
    refine AOps.nil (k _ ?_)
    refine AWp.ret ?_
    cases h; exact rt
end Go.Pv.Tryd

namespace Go.Pv.Tryd
open Go.Proofs Go.Pv
set_option maxHeartbeats 4000000 in
theorem m_cocketlaw02_TariffBehind_ok (k1 : Int) (t1 : (List Rule)) (more1 : Rule) (pick1 : Int) (r : Bool) (h : m_cocketlaw02_TariffBehind k1 t1 more1 pick1 = some r) : PureFn Tryd.prog G 14 [.d (.int .i64 k1), .d (.imm 2 (lenc Rule.pd t1)), .d (.agg [(.imm 2 (lenc Band.pd more1.Bands)), (.int .i64 more1.Code)]), .d (.int .u8 pick1)] (.d (.bool r)) := by
 unfold m_cocketlaw02_TariffBehind at h
 refine pf Tryd.func14 Tryd.ntmps14 ?_
 refine sg fun K k => ?_
 iterate 2 refine oo ?_
 refine AOps.nil (k _ ?_)
 refine AWp.seq fun _ K_1 => ?_
 refine sg fun K k => ?_
 iterate 2 refine oo ?_
 obtain ⟨r1, hx_2, h⟩ := bind_some h
 refine cl (m_cocketlaw02_few_ok k1 t1 _ hx_2) ?_
 iterate 2 refine oo ?_
 refine ct 5 [0, 1, 3, 6] [1000] (fun  t => (31, .d (.bool ((!r1) || (decide (20 < (more1.Bands.length : Int)))))) :: t) ?_ ?_
 ·rcases bt (!r1) with hg_4 | hg_4
  ·rw [hg_4]
   iterate 5 refine oo ?_
   refine AOps.nil ?_
   exact sb
  ·rw [hg_4]
   iterate 5 refine oo ?_
   refine AOps.nil ?_
   exact sb
 refine AOps.nil (k _ ?_)
 refine cd h (fun h => ?_) (fun h => ?_)
 ·refine sg fun K k => ?_
  obtain ⟨r2, hx_6, h⟩ := bind_some h
  refine cl (m_cocketlaw02_alive_ok _ hx_6) ?_
  refine oo ?_
  refine AOps.nil (k _ ?_)
  refine AWp.ret ?_
  cases h; exact rt
 ·refine AWp.skip ?_
  refine K_1 _ ?_
  refine sg fun K k => ?_
  iterate 2 refine oo ?_
  obtain ⟨r3, hx_7, h⟩ := bind_some h
  refine cl (m_tariff_Dead_ok k1 t1 _ hx_7) ?_
  iterate 5 refine oo ?_
  refine AOps.nil (k _ ?_)
  refine AWp.seq fun _ K_8 => ?_
  refine sg fun K k => ?_
  iterate 2 refine oo ?_
  refine AOps.nil (k _ ?_)
  refine cd h (fun h => ?_) (fun h => ?_)
  ·refine sg fun K k => ?_
   iterate 4 refine oo ?_
   obtain ⟨b1, hc_10, h⟩ := bind_some h
   refine ct 2 [] [] (fun  t => (46, .d (.bool b1)) :: t) ?_ ?_
   ·rcases bt (decide ((r3.1.length : Int) = 0)) with hg_12 | hg_12
    ·rw [hg_12]
     rw [hg_12, cond_true] at hc_10
     obtain ⟨r4, hx_11, hc_10⟩ := bind_some hc_10
     refine cl (m_cocketlaw02_alive_ok _ hx_11) ?_
     refine oo ?_
     refine AOps.nil ?_
     cases hc_10
     exact sb
    ·rw [hg_12]
     rw [hg_12, cond_false] at hc_10
     iterate 2 refine oo ?_
     refine AOps.nil ?_
     cases hc_10
     exact sb
   refine oo ?_
   refine AOps.nil (k _ ?_)
   refine AWp.ret ?_
   cases h; exact rt
  ·refine AWp.skip ?_
   refine K_8 _ ?_
   refine jm (ι := Unit) [0, 1, 6] [1000] (fun i t => t) (fun i t => t) .inl h ?_ ?_
   ·intro _ hj_14 h
    refine sg fun K k => ?_
    iterate 3 refine oo ?_
    refine AOps.nil (k _ ?_)
    refine cd hj_14 (fun hj_14 => ?_) (fun hj_14 => ?_)
    ·refine sg fun K k => ?_
     obtain ⟨hg_16, hj_14⟩ := guardO_some hj_14
     obtain ⟨e1, ⟨f_17, f_18, f_19, f_20⟩, hj_14⟩ := idx_bind hj_14
     try simp only [Int.toNat_natCast] at f_19 f_20
     iterate 7 refine oo ?_
     refine oo ?_ (by intro K k; simp (disch := omega) only [go_sem, f_19, Int.toNat_natCast, ↓reduceIte]; exact k)
     refine oo ?_
     refine AOps.nil (k _ ?_)
     refine AWp.seq fun _ K_21 => ?_
     refine sg fun K k => ?_
     iterate 3 refine oo ?_
     refine ct 5 [0, 1, 6, 11] [1000] (fun  t => (65, .d (.bool ((decide (e1 < 0)) || (decide ((t1.length : Int) ≤ e1))))) :: t) ?_ ?_
     ·rcases bt (decide (e1 < 0)) with hg_23 | hg_23
      ·rw [hg_23]
       iterate 5 refine oo ?_
       refine AOps.nil ?_
       exact sb
      ·rw [hg_23]
       iterate 5 refine oo ?_
       refine AOps.nil ?_
       exact sb
     refine AOps.nil (k _ ?_)
     refine cd hj_14 (fun hj_14 => ?_) (fun hj_14 => ?_)
     ·refine sg fun K k => ?_
      refine oo ?_
      refine AOps.nil (k _ ?_)
      refine AWp.ret ?_
      cases hj_14; try dsimp only at h
      cases h; exact rt
     ·refine AWp.skip ?_
      refine K_21 _ ?_
      refine sd mo fun K k => ?_
      iterate 3 refine dd ?_
      obtain ⟨r5, hx_25, hj_14⟩ := bind_some hj_14
      refine dap rfl (by intro K k; refine OpX.callRow 1001 rfl rfl (by kernel_rfl) (m_cocketlaw02_copied_ok t1 _ hx_25) (by repeat' (first | exact trivial | exact rfl | apply And.intro)) (by simp only [go_sem]) (by rfl) (by decide) (by simp (disch := omega) only [go_sem, true_or, or_true, and_self, true_and, ↓reduceIte]) ?_; simp (disch := omega) only [go_sem, ↓reduceIte]; exact k) ?_
      obtain ⟨hg_26, hj_14⟩ := guardO_some hj_14
      refine dd ?_
      refine dd ?_ (by intro K k; simp (disch := omega) only [go_sem, true_or, and_true, ↓reduceIte]; exact k)
      refine dd ?_
      obtain ⟨r6, hx_27, hj_14⟩ := bind_some hj_14
      refine dcl (RowFn.pure (m_cocketlaw02_copied_ok t1 _ hx_27)) ?_
      obtain ⟨hg_28, hj_14⟩ := guardO_some hj_14
      obtain ⟨hg_29, hj_14⟩ := guardO_some hj_14
      iterate 3 refine dd ?_
      refine dap rfl (by intro K k; refine OpX.appIn (L := dl (lenc Rule.pd ((r6.drop ((IntKind.i64.wrap (e1 + 1))).toNat).take (((r6.length : Int) : Int) - (IntKind.i64.wrap (e1 + 1))).toNat))) rfl ty22 T22_desc ty56 (by rw [T56_size]; decide) rfl (by rfl) rfl (by rw [T56_size]) rfl (by intro H; simp only [srcV, T56_size, ↓reduceIte]; rfl) (by simp only [dl, lenc, List.length_map]; omega) (by simp only [go_sem]) (by exact first_dl (fun _ => rfl)) (by simp (disch := omega) only [go_sem, true_or, or_true, and_self, true_and, ↓reduceIte]) ?_; simp (disch := omega) only [go_sem, app_dl, dl_len, ↓reduceIte]; exact k) ?_
      refine DOps.bar (by kernel_rfl) ?_
      refine BOps.hard (by kernel_rfl) ?_
      refine AOps.sub (τ := ⟨[(0, .d (.int .i64 k1)), (1, .d (.imm 2 (lenc Rule.pd t1))), (6, .ptr 1000 0 0), (67, .d (.int .i64 k1)), (68, .d (.imm 2 (lenc Rule.pd t1))), (78, .d (.imm 2 (lenc Rule.pd (List.take (((e1 : Int) - 0).toNat + ((r6.drop ((IntKind.i64.wrap (e1 + 1))).toNat).take (((r6.length : Int) : Int) - (IntKind.i64.wrap (e1 + 1))).toNat).length) (List.take (((e1 : Int) - 0).toNat) r5 ++ ((r6.drop ((IntKind.i64.wrap (e1 + 1))).toNat).take (((r6.length : Int) : Int) - (IntKind.i64.wrap (e1 + 1))).toNat) ++ List.drop (((e1 : Int) - 0).toNat + ((r6.drop ((IntKind.i64.wrap (e1 + 1))).toNat).take (((r6.length : Int) : Int) - (IntKind.i64.wrap (e1 + 1))).toNat).length) r5)))))], [(1000, ⟨56, 2, [.d (.agg [(.imm 2 (lenc Band.pd more1.Bands)), (.int .i64 more1.Code)])]⟩)], [], none⟩) sct ?_
      obtain ⟨r7, hx_30, hj_14⟩ := bind_some hj_14
      refine cl (m_tariff_Differ_ok k1 t1 (List.take (((e1 : Int) - 0).toNat + ((r6.drop ((IntKind.i64.wrap (e1 + 1))).toNat).take (((r6.length : Int) : Int) - (IntKind.i64.wrap (e1 + 1))).toNat).length) (List.take (((e1 : Int) - 0).toNat) r5 ++ ((r6.drop ((IntKind.i64.wrap (e1 + 1))).toNat).take (((r6.length : Int) : Int) - (IntKind.i64.wrap (e1 + 1))).toNat) ++ List.drop (((e1 : Int) - 0).toNat + ((r6.drop ((IntKind.i64.wrap (e1 + 1))).toNat).take (((r6.length : Int) : Int) - (IntKind.i64.wrap (e1 + 1))).toNat).length) r5)) _ hx_30) ?_
      refine AOps.nil ?_
      refine BOps.draw [] trivial (Nat.le_of_ble_eq_true rfl) ?_
      iterate 5 refine dd ?_
      refine DOps.nil (by kernel_rfl) (k _ ?_)
      refine sg fun K k => ?_
      iterate 2 refine oo ?_
      refine AOps.nil (k _ ?_)
      refine cd hj_14 (fun hj_14 => ?_) (fun hj_14 => ?_)
      ·refine sg fun K k => ?_
       refine oo ?_
       refine AOps.nil (k _ ?_)
       refine AWp.ret ?_
       cases hj_14; try dsimp only at h
       cases h; exact rt
      ·refine AWp.skip ?_
       exact ln hj_14 sb
    ·refine AWp.skip ?_
     exact ln hj_14 sb
   ·rintro _ h; dsimp only at h ⊢
    refine sd mo fun K k => ?_
    refine dd ?_
    obtain ⟨r8, hx_32, h⟩ := bind_some h
    refine dap rfl (by intro K k; refine OpX.callRow 1001 rfl rfl (by kernel_rfl) (m_cocketlaw02_copied_ok t1 _ hx_32) (by repeat' (first | exact trivial | exact rfl | apply And.intro)) (by simp only [go_sem]) (by rfl) (by decide) (by simp (disch := omega) only [go_sem, true_or, or_true, and_self, true_and, ↓reduceIte]) ?_; simp (disch := omega) only [go_sem, ↓reduceIte]; exact k) ?_
    refine dd ?_
    refine ddl ?_
    refine DOps.stop (by kernel_rfl) ?_
    obtain ⟨hg_33, h⟩ := guardO_some h
    iterate 2 refine oo ?_
    refine AOps.nil (k _ ?_)
    refine sg fun K k => ?_
    iterate 3 refine oo ?_
    refine AOps.sub (τ := ⟨[(0, .d (.int .i64 k1)), (1, .d (.imm 2 (lenc Rule.pd t1))), (6, .ptr 1000 0 0), (14, .d (.imm 2 (lenc Rule.pd (r8 ++ [more1])))), (90, .d (.int .i64 k1)), (91, .d (.imm 2 (lenc Rule.pd t1))), (92, .d (.imm 2 (lenc Rule.pd (r8 ++ [more1]))))], [(1000, ⟨56, 2, [.d (.agg [(.imm 2 (lenc Band.pd more1.Bands)), (.int .i64 more1.Code)])]⟩)], [], none⟩) sc ?_
    obtain ⟨r9, hx_34, h⟩ := bind_some h
    refine cl (m_tariff_Differ_ok k1 t1 (r8 ++ [more1]) _ hx_34) ?_
    iterate 5 refine oo ?_
    refine AOps.nil (k _ ?_)
    refine AWp.seq fun _ K_35 => ?_
    refine sg fun K k => ?_
    iterate 2 refine oo ?_
    refine AOps.nil (k _ ?_)
    refine cd h (fun h => ?_) (fun h => ?_)
    ·refine sg fun K k => ?_
     obtain ⟨r10, hx_37, h⟩ := bind_some h
     refine cl (m_cocketlaw02_alive_ok _ hx_37) ?_
     refine oo ?_
     refine AOps.nil (k _ ?_)
     refine AWp.ret ?_
     cases h; exact rt
    ·refine AWp.skip ?_
     refine K_35 _ ?_
     refine sg fun K k => ?_
     iterate 3 refine oo ?_
     obtain ⟨r11, hx_38, h⟩ := bind_some h
     refine cl (m_tariff_Code_ok k1 t1 r9.1 _ hx_38) ?_
     iterate 7 refine oo ?_
     refine AOps.nil (k _ ?_)
     refine sg fun K k => ?_
     iterate 3 refine oo ?_
     obtain ⟨r12, hx_39, h⟩ := bind_some h
     refine cl (m_tariff_Code_ok k1 (r8 ++ [more1]) r9.1 _ hx_39) ?_
     iterate 7 refine oo ?_
     refine AOps.nil (k _ ?_)
     refine sg fun K k => ?_
     iterate 3 refine oo ?_
     refine ct 3 [1, 6, 19, 20] [1000] (fun  t => (120, .d (.bool ((decide (r11.2.2 = 6)) && (decide (r12.2.2 = 0))))) :: t) ?_ ?_
     ·rcases bt (decide (r11.2.2 = 6)) with hg_41 | hg_41
      ·rw [hg_41]
       iterate 3 refine oo ?_
       refine AOps.nil ?_
       exact sb
      ·rw [hg_41]
       iterate 3 refine oo ?_
       refine AOps.nil ?_
       exact sb
     refine oo ?_
     refine ct 5 [1, 20] [] (fun  t => (126, .d (.bool (((decide (r11.2.2 = 6)) && (decide (r12.2.2 = 0))) && (decide (r12.1 = more1.Code))))) :: t) ?_ ?_
     ·rcases bt ((decide (r11.2.2 = 6)) && (decide (r12.2.2 = 0))) with hg_43 | hg_43
      ·rw [hg_43]
       iterate 5 refine oo ?_
       refine AOps.nil ?_
       exact sb
      ·rw [hg_43]
       iterate 5 refine oo ?_
       refine AOps.nil ?_
       exact sb
     refine oo ?_
     refine ct 5 [] [] (fun  t => (132, .d (.bool ((((decide (r11.2.2 = 6)) && (decide (r12.2.2 = 0))) && (decide (r12.1 = more1.Code))) && (decide (r12.2.1 = (t1.length : Int)))))) :: t) ?_ ?_
     ·rcases bt (((decide (r11.2.2 = 6)) && (decide (r12.2.2 = 0))) && (decide (r12.1 = more1.Code))) with hg_45 | hg_45
      ·rw [hg_45]
       iterate 5 refine oo ?_
       refine AOps.nil ?_
       exact sb
      ·rw [hg_45]
       iterate 5 refine oo ?_
       refine AOps.nil ?_
       exact sb
     refine oo ?_
     obtain ⟨b2, hc_46, h⟩ := bind_some h
     refine ct 2 [] [] (fun  t => (135, .d (.bool b2)) :: t) ?_ ?_
     ·rcases bt ((((decide (r11.2.2 = 6)) && (decide (r12.2.2 = 0))) && (decide (r12.1 = more1.Code))) && (decide (r12.2.1 = (t1.length : Int)))) with hg_48 | hg_48
      ·rw [hg_48]
       rw [hg_48, cond_true] at hc_46
       obtain ⟨r13, hx_47, hc_46⟩ := bind_some hc_46
       refine cl (m_cocketlaw02_alive_ok _ hx_47) ?_
       refine oo ?_
       refine AOps.nil ?_
       cases hc_46
       exact sb
      ·rw [hg_48]
       rw [hg_48, cond_false] at hc_46
       iterate 2 refine oo ?_
       refine AOps.nil ?_
       cases hc_46
       exact sb
     refine oo ?_
     refine AOps.nil (k _ ?_)
     refine AWp.ret ?_
     cases h; exact rt
end Go.Pv.Tryd

