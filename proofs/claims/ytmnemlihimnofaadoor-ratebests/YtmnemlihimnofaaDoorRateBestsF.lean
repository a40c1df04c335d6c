/- RateBests answers true for every input, as its tied card says: under the conditions of the card (Rows, Cards, Tie), no more. Part 6 of 6: by one AI agent and its programs; no person has read it. -/
import Derived.Test.YtmnemlihimnofaaDoorRateBestsA
import Derived.Test.YtmnemlihimnofaaDoorRateBestsB
import Derived.Test.YtmnemlihimnofaaDoorRateBestsC
import Derived.Test.YtmnemlihimnofaaDoorRateBestsD
import Derived.Test.YtmnemlihimnofaaDoorRateBestsE
import Derived.WideKeyRuns
import Derived.ChangeKeysEq
import Derived.MapKept
import Derived.Laws.StructEq
import Derived.Lib.Builder
import Derived.Lib.UnsafeStr
import Derived.Lib.AppendStr
import Derived.Lib.FrozenHead
import Derived.Laws.Externs
import Derived.Test.YtmnemlihimnofaaDoorCards
import Derived.Test.YtmnemlihimnofaaDoorTie
import Derived.SevenTiedAt
set_option linter.unusedSimpArgs false
set_option linter.unusedVariables false
set_option linter.all false

namespace Go.Pv.Tryd
open Go.Proofs Go.Pv
set_option maxHeartbeats 4000000 in
theorem m_cocketref01_gaining_ok (n1 : Int) (l1 : (List Offer)) (r : ((List Int) × Bool)) (h : m_cocketref01_gaining n1 l1 = some r) : PureFn Tryd.prog G 49 [.d (.int .i64 n1), .d (.imm 4 (lenc Offer.pd l1))] (.tuple [.d (.imm 1 (lenc (PD.int .i64) r.1)), .d (.bool r.2)]) := by
 unfold m_cocketref01_gaining at h
 refine pf Tryd.func49 Tryd.ntmps49 ?_
 refine sg fun K k => ?_
 iterate 2 refine oo ?_
 refine AOps.nil (k _ ?_)
 refine sg fun K k => ?_
 refine oo ?_
 refine AOps.nil (k _ ?_)
 refine AWp.sub (Sub.void 6 87 1 1000 (by rfl) (by rfl) (by decide) (by decide)) ?_
 simp only [eput, hput, reduceCtorEq, ↓reduceIte, Nat.reduceAdd, Nat.reduceMul, Nat.reduceLT, Nat.reduceLeDiff, Nat.reduceEqDiff, Nat.reduceBEq, Int.reduceToNat]
 refine jn (α := (List (List (List Reach)))) [0, 1] [] (fun i t => (6, .slc 1000 0 i.length) :: t) (fun i t => (1000, ⟨87, 1, dl (lenc (slenc 1 (slenc 5 Reach.pd)) i)⟩) :: t) h ?_ ?_
 ·intro _ hj_2
  refine sg fun K k => ?_
  refine oo ?_
  refine AOps.nil (k _ ?_)
  refine AWp.block ?_
  obtain ⟨x_7, hl_4, h2_5⟩ := bind_some hj_2
  refine lp (S := (Int × (List (List (List Reach))))) [0, 1] [] (fun i t => (6, .slc 1000 0 i.2.length) :: (7, .d (.int .i64 i.1)) :: t) (fun i t => (1000, ⟨87, 1, dl (lenc (slenc 1 (slenc 5 Reach.pd)) i.2)⟩) :: t) hl_4 ?_ ?_; exact sb; clear hl_4
  rintro ⟨s1, L2⟩ _ hb_6; unfold m_cocketref01_gaining_l1 at hb_6; try dsimp only at hb_6
  try dsimp only
  refine AWp.seq fun _ K_9 => ?_
  refine sg fun K k => ?_
  iterate 3 refine oo ?_
  refine AOps.nil (k _ ?_)
  refine cd hb_6 (fun hb_6 => ?_) (fun hb_6 => ?_)
  ·refine AWp.skip ?_
   refine K_9 _ ?_
   refine AWp.seq fun _ K_11 => ?_
   refine AWp.block ?_
   refine AWp.reg ?_
   iterate 5 refine oo ?_
   obtain ⟨r1, hx_12, hb_6⟩ := bind_some hb_6
   refine cl (m_cocketref01_reaches_ok n1 l1 s1 n1 _ hx_12) ?_
   refine ol ?_
   obtain ⟨hg_13, hb_6⟩ := guardO_some hb_6
   iterate 2 refine oo ?_
   refine AOps.nil ?_
   refine K_11 _ ?_
   refine AWp.reg ?_
   iterate 3 refine oo ?_
   refine AOps.nil ?_
   exact ln hb_6 sb
  ·refine AWp.exit ?_
   refine lx hb_6 fun hx => ?_; cases hx; try dsimp only at h2_5
   cases h2_5; exact sb
 ·rintro L1 h; dsimp only at h ⊢
  refine jm (ι := Unit) [] [] (fun i t => t) (fun i t => t) .inl h ?_ ?_
  ·intro _ hj_15 h
   refine sg fun K k => ?_
   refine oo ?_
   refine AOps.nil (k _ ?_)
   refine AWp.block ?_
   obtain ⟨x_20, hl_17, h2_18⟩ := bind_some hj_15
   refine lp (S := Int) [0, 1, 6] [1000] (fun i t => (8, .d (.int .i64 i)) :: t) (fun i t => t) hl_17 ?_ ?_; exact sb; clear hl_17
   rintro k1 _ hb_19; unfold m_cocketref01_gaining_l2 at hb_19; try dsimp only at hb_19
   try dsimp only
   refine AWp.seq fun _ K_22 => ?_
   refine sg fun K k => ?_
   iterate 3 refine oo ?_
   refine AOps.nil (k _ ?_)
   refine cd hb_19 (fun hb_19 => ?_) (fun hb_19 => ?_)
   ·refine AWp.skip ?_
    refine K_22 _ ?_
    refine jm (ι := Unit) [0, 1, 6, 8] [1000] (fun i t => t) (fun i t => t) .inl hb_19 ?_ ?_
    ·intro _ hj_25 hb_19
     refine AWp.block ?_
     refine sg fun K k => ?_
     refine oo ?_
     refine AOps.nil (k _ ?_)
     refine AWp.block ?_
     obtain ⟨x_30, hl_27, h2_28⟩ := bind_some hj_25
     refine lp (S := Int) [0, 1, 6, 8] [1000] (fun i t => (9, .d (.int .i64 i)) :: t) (fun i t => t) hl_27 ?_ ?_; exact sb; clear hl_27
     rintro i1 _ hb_29; unfold m_cocketref01_gaining_l3 at hb_29; try dsimp only at hb_29
     try dsimp only
     refine AWp.seq fun _ K_32 => ?_
     refine sg fun K k => ?_
     iterate 4 refine oo ?_
     refine AOps.nil (k _ ?_)
     refine cd hb_29 (fun hb_29 => ?_) (fun hb_29 => ?_)
     ·refine AWp.skip ?_
      refine K_32 _ ?_
      refine AWp.seq fun _ K_34 => ?_
      refine AWp.block ?_
      refine sg fun K k => ?_
      obtain ⟨e1, ⟨f_35, f_36, f_37, f_38⟩, hb_29⟩ := idx_bind hb_29
      iterate 6 refine oo ?_
      refine oo ?_ (by intro K k; simp (disch := omega) only [go_sem, f_37, ↓reduceIte]; exact k)
      obtain ⟨e2, ⟨f_39, f_40, f_41, f_42⟩, hb_29⟩ := idx_bind hb_29
      refine oo ?_
      refine oo ?_ (by intro K k; simp (disch := omega) only [go_sem, f_41, ↓reduceIte]; exact k)
      iterate 2 refine oo ?_
      obtain ⟨r2, hx_43, hb_29⟩ := bind_some hb_29
      refine cl (m_cocketref01_closed_ok l1 e2 i1 k1 _ hx_43) ?_
      iterate 5 refine oo ?_
      refine AOps.nil (k _ ?_)
      refine sg fun K k => ?_
      refine oo ?_
      refine AOps.nil (k _ ?_)
      refine cd hb_29 (fun hb_29 => ?_) (fun hb_29 => ?_)
      ·refine sg fun K k => ?_
       iterate 3 refine oo ?_
       refine AOps.nil (k _ ?_)
       refine AWp.ret ?_
       refine lx hb_29 fun hx => ?_; cases hx; try dsimp only at h2_28
       cases h2_28; try dsimp only at hb_19
       refine lx hb_19 fun hx => ?_; cases hx; try dsimp only at h2_18
       cases h2_18; try dsimp only at h
       cases h; exact rt
      ·refine AWp.skip ?_
       refine K_34 _ ?_
       refine AWp.reg ?_
       iterate 3 refine oo ?_
       refine AOps.nil ?_
       exact ln hb_29 sb
     ·refine AWp.exit ?_
      refine lx hb_29 fun hx => ?_; cases hx; try dsimp only at h2_28
      exact ln h2_28 sb
    ·rintro _ hb_19; dsimp only at hb_19 ⊢
     refine AWp.reg ?_
     iterate 3 refine oo ?_
     refine AOps.nil ?_
     exact ln hb_19 sb
   ·refine AWp.exit ?_
    refine lx hb_19 fun hx => ?_; cases hx; try dsimp only at h2_18
    exact ln h2_18 sb
  ·rintro _ h; dsimp only at h ⊢
   refine sg fun K k => ?_
   iterate 2 refine oo ?_
   refine AOps.nil (k _ ?_)
   refine AWp.ret ?_
   cases h; exact rt
end Go.Pv.Tryd

namespace Go.Pv.Tryd
open Go.Proofs Go.Pv
set_option maxHeartbeats 4000000 in
theorem m_cocketref01_best_ok (n1 : Int) (l1 : (List Offer)) (from1 : Int) (to1 : Int) (r : (Q × (List Int) × Bool)) (h : m_cocketref01_best n1 l1 from1 to1 = some r) : PureFn Tryd.prog G 50 [.d (.int .i64 n1), .d (.imm 4 (lenc Offer.pd l1)), .d (.int .i64 from1), .d (.int .i64 to1)] (.tuple [.d (.agg [(.bool r.1.N.Neg), (.imm 1 (lenc (PD.int .i64) r.1.N.D)), (.bool r.1.D.Neg), (.imm 1 (lenc (PD.int .i64) r.1.D.D))]), .d (.imm 1 (lenc (PD.int .i64) r.2.1)), .d (.bool r.2.2)]) := by
 unfold m_cocketref01_best at h
 refine pf Tryd.func50 Tryd.ntmps50 ?_
 refine sg fun K k => ?_
 iterate 3 refine oo ?_
 refine AOps.nil (k _ ?_)
 refine sg fun K k => ?_
 iterate 5 refine oo ?_
 obtain ⟨r1, hx_1, h⟩ := bind_some h
 refine cl (m_cocketref01_reaches_ok n1 l1 to1 (IntKind.i64.wrap (n1 - 1)) _ hx_1) ?_
 refine oo ?_
 refine AOps.nil (k _ ?_)
 refine sg fun K k => ?_
 iterate 3 refine oo ?_
 refine AOps.nil (k _ ?_)
 refine sg fun K k => ?_
 refine oo ?_
 refine AOps.nil (k _ ?_)
 refine jn (α := (Int × Reach)) [1, 2, 8, 11] [1000] (fun i t => (12, .ptr 1001 0 0) :: (13, .d (.int .i64 i.1)) :: t) (fun i t => (1001, ⟨90, 5, [.d (.agg [(.bool i.2.Is), (.bool i.2.Rate.N.Neg), (.imm 1 (lenc (PD.int .i64) i.2.Rate.N.D)), (.bool i.2.Rate.D.Neg), (.imm 1 (lenc (PD.int .i64) i.2.Rate.D.D))])]⟩) :: t) h ?_ ?_
 ·intro _ hj_3
  refine sg fun K k => ?_
  refine oo ?_
  refine AOps.nil (k _ ?_)
  refine AWp.block ?_
  obtain ⟨x_8, hl_5, h2_6⟩ := bind_some hj_3
  refine lp (S := (Int × Int × Reach)) [0, 1, 2, 8, 11] [1000] (fun i t => (12, .ptr 1001 0 0) :: (13, .d (.int .i64 i.1)) :: (14, .d (.int .i64 i.2.1)) :: t) (fun i t => (1001, ⟨90, 5, [.d (.agg [(.bool i.2.2.Is), (.bool i.2.2.Rate.N.Neg), (.imm 1 (lenc (PD.int .i64) i.2.2.Rate.N.D)), (.bool i.2.2.Rate.D.Neg), (.imm 1 (lenc (PD.int .i64) i.2.2.Rate.D.D))])]⟩) :: t) hl_5 ?_ ?_; exact sch; clear hl_5
  rintro ⟨many2, k1, c2⟩ _ hb_7; unfold m_cocketref01_best_l1 at hb_7; try dsimp only at hb_7
  try dsimp only
  refine AWp.seq fun _ K_10 => ?_
  refine sg fun K k => ?_
  iterate 3 refine oo ?_
  refine AOps.nil (k _ ?_)
  refine cd hb_7 (fun hb_7 => ?_) (fun hb_7 => ?_)
  ·refine AWp.skip ?_
   refine K_10 _ ?_
   refine jn (α := (Int × Reach)) [0, 1, 2, 8, 11, 14] [1000] (fun i t => (12, .ptr 1001 0 0) :: (13, .d (.int .i64 i.1)) :: t) (fun i t => (1001, ⟨90, 5, [.d (.agg [(.bool i.2.Is), (.bool i.2.Rate.N.Neg), (.imm 1 (lenc (PD.int .i64) i.2.Rate.N.D)), (.bool i.2.Rate.D.Neg), (.imm 1 (lenc (PD.int .i64) i.2.Rate.D.D))])]⟩) :: t) hb_7 ?_ ?_
   ·intro _ hj_13
    refine AWp.block ?_
    refine sd mo fun K k => ?_
    obtain ⟨e1, ⟨f_14, f_15, f_16, f_17⟩, hj_13⟩ := idx_bind hj_13
    iterate 3 refine dd ?_
    refine dd ?_ (by intro K k; simp (disch := omega) only [go_sem, f_16, ↓reduceIte]; exact k)
    obtain ⟨e2, ⟨f_18, f_19, f_20, f_21⟩, hj_13⟩ := idx_bind hj_13
    iterate 3 refine dd ?_
    refine dd ?_ (by intro K k; simp (disch := omega) only [go_sem, f_20, ↓reduceIte]; exact k)
    refine dd ?_
    rcases bt e2.Is with hg_22 | hg_22
    ·rw [hg_22]
     rw [hg_22, cond_true] at hj_13
     iterate 4 refine dd ?_
     refine dd ?_ (by intro K k; simp (disch := omega) only [go_sem, f_16, ↓reduceIte]; exact k)
     iterate 3 refine dd ?_
     refine dd ?_ (by intro K k; simp (disch := omega) only [go_sem, f_20, ↓reduceIte]; exact k)
     obtain ⟨r2, hx_23, hj_13⟩ := bind_some hj_13
     refine dcl (m_cocketref01_better_ok c2 e2.Rate _ hx_23) ?_
     refine dd ?_
     refine DOps.nil (by kernel_rfl) (k _ ?_)
     refine cd hj_13 (fun hj_13 => ?_) (fun hj_13 => ?_)
     ·refine sg fun K k => ?_
      obtain ⟨e3, ⟨f_25, f_26, f_27, f_28⟩, hj_13⟩ := idx_bind hj_13
      iterate 3 refine oo ?_
      refine oo ?_ (by intro K k; simp (disch := omega) only [go_sem, f_27, ↓reduceIte]; exact k)
      obtain ⟨e4, ⟨f_29, f_30, f_31, f_32⟩, hj_13⟩ := idx_bind hj_13
      iterate 2 refine oo ?_
      refine oo ?_ (by intro K k; simp (disch := omega) only [go_sem, f_31, ↓reduceIte]; exact k)
      refine oo ?_
      refine AOps.nil (k _ ?_)
      refine AWp.reg ?_
      iterate 2 refine oo ?_
      refine AOps.nil ?_
      cases hj_13; exact sb
     ·refine AWp.skip ?_
      cases hj_13; exact sb
    ·rw [hg_22]
     rw [hg_22, cond_false] at hj_13
     iterate 11 refine dd ?_
     refine DOps.nil (by kernel_rfl) (k _ ?_)
     refine cdf ?_
     refine AWp.skip ?_
     cases hj_13; exact sb
   ·rintro ⟨many3, c3⟩ hb_7; dsimp only at hb_7 ⊢
    refine AWp.reg ?_
    iterate 3 refine oo ?_
    refine AOps.nil ?_
    exact ln hb_7 sb
  ·refine AWp.exit ?_
   refine lx hb_7 fun hx => ?_; cases hx; try dsimp only at h2_6
   cases h2_6; exact sb
 ·rintro ⟨many1, c1⟩ h; dsimp only at h ⊢
  refine AWp.seq fun _ K_42 => ?_
  refine sg fun K k => ?_
  iterate 3 refine oo ?_
  refine AOps.nil (k _ ?_)
  refine cd h (fun h => ?_) (fun h => ?_)
  ·refine sg fun K k => ?_
   iterate 4 refine oo ?_
   refine AOps.nil (k _ ?_)
   refine AWp.ret ?_
   cases h; exact rt
  ·refine AWp.skip ?_
   refine K_42 _ ?_
   refine sg fun K k => ?_
   refine oo ?_
   refine AOps.nil (k _ ?_)
   refine AWp.sub (Sub.void 15 3 1 1002 (by rfl) (by rfl) (by decide) (by decide)) ?_
   simp only [eput, hput, reduceCtorEq, ↓reduceIte, Nat.reduceAdd, Nat.reduceMul, Nat.reduceLT, Nat.reduceLeDiff, Nat.reduceEqDiff, Nat.reduceBEq, Int.reduceToNat]
   refine sg fun K k => ?_
   iterate 2 refine oo ?_
   refine AOps.nil (k _ ?_)
   refine sg fun K k => ?_
   iterate 4 refine oo ?_
   refine AOps.nil (k _ ?_)
   refine jn (α := (List Int)) [8, 12] [1000, 1001] (fun i t => (15, .slc 1002 0 i.length) :: t) (fun i t => (1002, ⟨3, 1, dl (lenc (PD.int .i64) i)⟩) :: t) h ?_ ?_
   ·intro _ hj_45
    refine AWp.block ?_
    obtain ⟨x_50, hl_47, h2_48⟩ := bind_some hj_45
    refine lp (S := (Int × (List Int) × Q)) [1, 8, 11, 12, 13] [1000, 1001] (fun i t => (15, .slc 1002 0 i.2.1.length) :: (16, .d (.int .i64 i.1)) :: (17, .ptr 1003 0 0) :: t) (fun i t => (1002, ⟨3, 1, dl (lenc (PD.int .i64) i.2.1)⟩) :: (1003, ⟨59, 4, [.d (.agg [(.bool i.2.2.N.Neg), (.imm 1 (lenc (PD.int .i64) i.2.2.N.D)), (.bool i.2.2.D.Neg), (.imm 1 (lenc (PD.int .i64) i.2.2.D.D))])]⟩) :: t) hl_47 ?_ ?_; exact sb; clear hl_47
    rintro ⟨at1, L2, c4⟩ _ hb_49; unfold m_cocketref01_best_l2 at hb_49; try dsimp only at hb_49
    try dsimp only
    refine AWp.seq fun _ K_52 => ?_
    refine sg fun K k => ?_
    iterate 4 refine oo ?_
    refine AOps.nil (k _ ?_)
    refine cd hb_49 (fun hb_49 => ?_) (fun hb_49 => ?_)
    ·refine AWp.skip ?_
     refine K_52 _ ?_
     refine AWp.block ?_
     refine sg fun K k => ?_
     refine oo ?_
     refine AOps.nil (k _ ?_)
     refine AWp.block ?_
     obtain ⟨x_58, hl_55, h2_56⟩ := bind_some hb_49
     refine lp (S := (Int × (List Int) × Q)) [1, 8, 11, 12, 13, 16] [1000, 1001] (fun i t => (15, .slc 1002 0 i.2.1.length) :: (17, .ptr 1003 0 0) :: (18, .d (.int .i64 i.1)) :: t) (fun i t => (1002, ⟨3, 1, dl (lenc (PD.int .i64) i.2.1)⟩) :: (1003, ⟨59, 4, [.d (.agg [(.bool i.2.2.N.Neg), (.imm 1 (lenc (PD.int .i64) i.2.2.N.D)), (.bool i.2.2.D.Neg), (.imm 1 (lenc (PD.int .i64) i.2.2.D.D))])]⟩) :: t) hl_55 ?_ ?_; exact sb; clear hl_55
     rintro ⟨i1, L3, c5⟩ _ hb_57; unfold m_cocketref01_best_l3 at hb_57; try dsimp only at hb_57
     try dsimp only
     refine AWp.seq fun _ K_60 => ?_
     refine sg fun K k => ?_
     iterate 4 refine oo ?_
     refine AOps.nil (k _ ?_)
     refine cd hb_57 (fun hb_57 => ?_) (fun hb_57 => ?_)
     ·refine AWp.skip ?_
      refine K_60 _ ?_
      refine AWp.seq fun _ K_62 => ?_
      refine AWp.block ?_
      refine sd mo fun K k => ?_
      obtain ⟨e7, ⟨f_63, f_64, f_65, f_66⟩, hb_57⟩ := idx_bind hb_57
      try simp only [Int.toNat_natCast] at f_65 f_66
      iterate 7 refine dd ?_
      refine dd ?_ (by intro K k; simp (disch := omega) only [go_sem, f_65, Int.toNat_natCast, ↓reduceIte]; exact k)
      obtain ⟨e8, ⟨f_67, f_68, f_69, f_70⟩, hb_57⟩ := idx_bind hb_57
      iterate 4 refine dd ?_
      refine dd ?_ (by intro K k; simp (disch := omega) only [go_sem, f_69, ↓reduceIte]; exact k)
      obtain ⟨e9, ⟨f_71, f_72, f_73, f_74⟩, hb_57⟩ := idx_bind hb_57
      refine dd ?_
      refine dd ?_ (by intro K k; simp (disch := omega) only [go_sem, f_73, ↓reduceIte]; exact k)
      iterate 2 refine dd ?_
      refine DOps.nil (by kernel_rfl) (k _ ?_)
      refine sd mo fun K k => ?_
      obtain ⟨e10, ⟨f_75, f_76, f_77, f_78⟩, hb_57⟩ := idx_bind hb_57
      iterate 4 refine dd ?_
      refine dd ?_ (by intro K k; simp (disch := omega) only [go_sem, f_77, ↓reduceIte]; exact k)
      iterate 3 refine dd ?_
      rcases bt (decide (e10.From = at1)) with hg_79 | hg_79
      ·rw [hg_79]
       rw [hg_79, cond_true] at hb_57
       iterate 4 refine dd ?_
       rcases bt e9.Is with hg_80 | hg_80
       ·rw [hg_80]
        rw [hg_80, cond_true] at hb_57
        iterate 3 refine dd ?_
        refine dd ?_ (by intro K k; simp (disch := omega) only [go_sem, f_77, ↓reduceIte]; exact k)
        obtain ⟨r3, hx_81, hb_57⟩ := bind_some hb_57
        refine dcl (m_cocketref01_rate_ok e10 _ hx_81) ?_
        iterate 2 refine dd ?_
        obtain ⟨r4, hx_82, hb_57⟩ := bind_some hb_57
        refine dcl (m_cocketref01_Mul_ok r3 e9.Rate _ hx_82) ?_
        refine dd ?_
        obtain ⟨r5, hx_83, hb_57⟩ := bind_some hb_57
        refine dcl (m_cocketref01_Cmp_ok r4 c5 _ hx_83) ?_
        iterate 2 refine dd ?_
        refine DOps.nil (by kernel_rfl) (k _ ?_)
        refine cd hb_57 (fun hb_57 => ?_) (fun hb_57 => ?_)
        ·refine sg fun K k => ?_
         iterate 2 refine oo ?_
         refine ol ?_
         obtain ⟨hg_85, hb_57⟩ := guardO_some hb_57
         iterate 2 refine oo ?_
         refine AOps.nil (k _ ?_)
         refine sg fun K k => ?_
         obtain ⟨e11, ⟨f_86, f_87, f_88, f_89⟩, hb_57⟩ := idx_bind hb_57
         iterate 4 refine oo ?_
         refine oo ?_ (by intro K k; simp (disch := omega) only [go_sem, f_88, ↓reduceIte]; exact k)
         refine oo ?_
         refine AOps.nil (k _ ?_)
         refine sg fun K k => ?_
         iterate 3 refine oo ?_
         refine AOps.nil (k _ ?_)
         refine AWp.exit ?_
         refine lx hb_57 fun hx => ?_; cases hx; try dsimp only at h2_56
         exact ln h2_56 sb
        ·refine AWp.skip ?_
         refine K_62 _ ?_
         refine AWp.reg ?_
         iterate 3 refine oo ?_
         refine AOps.nil ?_
         exact ln hb_57 sb
       ·rw [hg_80]
        rw [hg_80, cond_false] at hb_57
        iterate 12 refine dd ?_
        refine DOps.nil (by kernel_rfl) (k _ ?_)
        refine cdf ?_
        refine AWp.skip ?_
        refine K_62 _ ?_
        refine AWp.reg ?_
        iterate 3 refine oo ?_
        refine AOps.nil ?_
        exact ln hb_57 sb
      ·rw [hg_79]
       rw [hg_79, cond_false] at hb_57
       iterate 16 refine dd ?_
       refine DOps.nil (by kernel_rfl) (k _ ?_)
       refine cdf ?_
       refine AWp.skip ?_
       refine K_62 _ ?_
       refine AWp.reg ?_
       iterate 3 refine oo ?_
       refine AOps.nil ?_
       exact ln hb_57 sb
     ·refine AWp.exit ?_
      refine lx hb_57 fun hx => ?_; cases hx; try dsimp only at h2_56
      exact ln h2_56 sb
    ·refine AWp.exit ?_
     refine lx hb_49 fun hx => ?_; cases hx; try dsimp only at h2_48
     cases h2_48; exact sb
   ·rintro L1 h; dsimp only at h ⊢
    refine sg fun K k => ?_
    iterate 6 refine oo ?_
    refine AOps.nil (k _ ?_)
    refine AWp.ret ?_
    cases h; exact rt
end Go.Pv.Tryd

namespace Go.Pv.Tryd
open Go.Proofs Go.Pv
theorem m_cocketref01_Within_ok (a1 : Big) (most1 : Int) (r : (Int × Bool)) (h : m_cocketref01_Within a1 most1 = some r) : PureFn Tryd.prog G 78 [.d (.agg [(.bool a1.Neg), (.imm 1 (lenc (PD.int .i64) a1.D))]), .d (.int .i64 most1)] (.tuple [.d (.int .i64 r.1), .d (.bool r.2)]) := by
 unfold m_cocketref01_Within at h
 refine pf Tryd.func78 Tryd.ntmps78 ?_
 refine sg fun K k => ?_
 iterate 3 refine oo ?_
 refine AOps.nil (k _ ?_)
 refine AWp.seq fun _ K_1 => ?_
 refine sd mo fun K k => ?_
 iterate 3 refine dd ?_
 obtain ⟨r1, hx_2, h⟩ := bind_some h
 refine dcl (m_cocketref01_Of_ok most1 _ hx_2) ?_
 refine dd ?_
 obtain ⟨r2, hx_3, h⟩ := bind_some h
 refine dcl (m_cocketref01_cmpD_ok a1.D r1.D _ hx_3) ?_
 refine dd ?_
 refine DOps.nil (by kernel_rfl) (k _ ?_)
 refine cd h (fun h => ?_) (fun h => ?_)
 ·refine sg fun K k => ?_
  iterate 2 refine oo ?_
  refine AOps.nil (k _ ?_)
  refine AWp.ret ?_
  cases h; exact rt
 ·refine AWp.skip ?_
  refine K_1 _ ?_
  refine sg fun K k => ?_
  refine oo ?_
  refine AOps.nil (k _ ?_)
  refine jn (α := Int) [2] [1000] (fun i t => (6, .d (.int .i64 i)) :: t) (fun i t => t) h ?_ ?_
  ·intro _ hj_6
   refine sg fun K k => ?_
   iterate 5 refine oo ?_
   refine AOps.nil (k _ ?_)
   refine AWp.block ?_
   obtain ⟨x_11, hl_8, h2_9⟩ := bind_some hj_6
   refine lp (S := (Int × Int)) [2] [1000] (fun i t => (6, .d (.int .i64 i.1)) :: (7, .d (.int .i64 i.2)) :: t) (fun i t => t) hl_8 ?_ ?_; exact sb; clear hl_8
   rintro ⟨n2, i1⟩ _ hb_10; unfold m_cocketref01_Within_l1 at hb_10; try dsimp only at hb_10
   try dsimp only
   refine AWp.seq fun _ K_13 => ?_
   refine sg fun K k => ?_
   iterate 2 refine oo ?_
   refine AOps.nil (k _ ?_)
   refine cd hb_10 (fun hb_10 => ?_) (fun hb_10 => ?_)
   ·refine AWp.skip ?_
    refine K_13 _ ?_
    refine AWp.seq fun _ K_15 => ?_
    refine AWp.block ?_
    refine AWp.reg ?_
    obtain ⟨e1, ⟨f_16, f_17, f_18, f_19⟩, hb_10⟩ := idx_bind hb_10
    iterate 6 refine oo ?_
    refine oo ?_ (by intro K k; simp (disch := omega) only [go_sem, f_18, ↓reduceIte]; exact k)
    iterate 2 refine oo ?_
    refine AOps.nil ?_
    refine K_15 _ ?_
    refine AWp.reg ?_
    iterate 3 refine oo ?_
    refine AOps.nil ?_
    exact ln hb_10 sb
   ·refine AWp.exit ?_
    refine lx hb_10 fun hx => ?_; cases hx; try dsimp only at h2_9
    cases h2_9; exact sb
  ·rintro n1 h; dsimp only at h ⊢
   refine jn (α := Int) [] [] (fun i t => (6, .d (.int .i64 i)) :: t) (fun i t => t) h ?_ ?_
   ·intro _ hj_21
    refine sg fun K k => ?_
    iterate 2 refine oo ?_
    refine AOps.nil (k _ ?_)
    refine cd hj_21 (fun hj_21 => ?_) (fun hj_21 => ?_)
    ·refine AWp.reg ?_
     iterate 3 refine oo ?_
     refine AOps.nil ?_
     cases hj_21; exact sb
    ·refine AWp.skip ?_
     cases hj_21; exact sb
   ·rintro n3 h; dsimp only at h ⊢
    refine sg fun K k => ?_
    iterate 3 refine oo ?_
    refine AOps.nil (k _ ?_)
    refine AWp.ret ?_
    cases h; exact rt
end Go.Pv.Tryd

namespace Go.Pv.Tryd
open Go.Proofs Go.Pv
theorem m_cocketref01_ToRatio_ok (a1 : Q) (most1 : Int) (r : (Ratio × Bool)) (h : m_cocketref01_ToRatio a1 most1 = some r) : PureFn Tryd.prog G 51 [.d (.agg [(.bool a1.N.Neg), (.imm 1 (lenc (PD.int .i64) a1.N.D)), (.bool a1.D.Neg), (.imm 1 (lenc (PD.int .i64) a1.D.D))]), .d (.int .i64 most1)] (.tuple [.d (.agg [(.int .i64 r.1.Num), (.int .i64 r.1.Den)]), .d (.bool r.2)]) := by
 unfold m_cocketref01_ToRatio at h
 refine pf Tryd.func51 Tryd.ntmps51 ?_
 refine sg fun K k => ?_
 iterate 3 refine oo ?_
 refine AOps.nil (k _ ?_)
 refine sg fun K k => ?_
 iterate 3 refine oo ?_
 obtain ⟨r1, hx_1, h⟩ := bind_some h
 refine cl (m_cocketref01_Within_ok a1.N most1 _ hx_1) ?_
 iterate 5 refine oo ?_
 refine AOps.nil (k _ ?_)
 refine sg fun K k => ?_
 iterate 3 refine oo ?_
 obtain ⟨r2, hx_2, h⟩ := bind_some h
 refine cl (m_cocketref01_Within_ok a1.D most1 _ hx_2) ?_
 iterate 5 refine oo ?_
 refine AOps.nil (k _ ?_)
 refine AWp.seq fun _ K_3 => ?_
 refine sg fun K k => ?_
 iterate 3 refine oo ?_
 refine ct 3 [4, 6, 8] [1001] (fun  t => (29, .d (.bool ((!r1.2) || (!r2.2)))) :: t) ?_ ?_
 ·rcases bt (!r1.2) with hg_5 | hg_5
  ·rw [hg_5]
   iterate 3 refine oo ?_
   refine AOps.nil ?_
   exact sb
  ·rw [hg_5]
   iterate 3 refine oo ?_
   refine AOps.nil ?_
   exact sb
 refine AOps.nil (k _ ?_)
 refine cd h (fun h => ?_) (fun h => ?_)
 ·refine sg fun K k => ?_
  iterate 3 refine oo ?_
  refine AOps.nil (k _ ?_)
  refine AWp.ret ?_
  cases h; exact rt
 ·refine AWp.skip ?_
  refine K_3 _ ?_
  refine sg fun K k => ?_
  iterate 5 refine oo ?_
  refine AOps.nil (k _ ?_)
  refine AWp.ret ?_
  cases h; exact rt
end Go.Pv.Tryd

namespace Go.Pv.Tryd
open Go.Proofs Go.Pv
theorem m_cocketref01_Best_ok (n1 : Int) (l1 : (List Offer)) (from1 : Int) (to1 : Int) (r : (Ratio × (List Int) × Int)) (h : m_cocketref01_Best n1 l1 from1 to1 = some r) : PureFn Tryd.prog G 19 [.d (.int .i64 n1), .d (.imm 4 (lenc Offer.pd l1)), .d (.int .i64 from1), .d (.int .i64 to1)] (.tuple [.d (.agg [(.int .i64 r.1.Num), (.int .i64 r.1.Den)]), .d (.imm 1 (lenc (PD.int .i64) r.2.1)), .d (.int .i64 r.2.2)]) := by
 unfold m_cocketref01_Best at h
 refine pf Tryd.func19 Tryd.ntmps19 ?_
 refine sg fun K k => ?_
 iterate 3 refine oo ?_
 refine AOps.nil (k _ ?_)
 refine sg fun K k => ?_
 iterate 2 refine oo ?_
 obtain ⟨r1, hx_1, h⟩ := bind_some h
 refine cl (m_cocketref01_Good_ok n1 l1 _ hx_1) ?_
 refine oo ?_
 refine AOps.nil (k _ ?_)
 refine AWp.seq fun _ K_2 => ?_
 refine sg fun K k => ?_
 iterate 2 refine oo ?_
 refine AOps.nil (k _ ?_)
 refine cd h (fun h => ?_) (fun h => ?_)
 ·refine sg fun K k => ?_
  iterate 5 refine oo ?_
  refine AOps.nil (k _ ?_)
  refine AWp.ret ?_
  cases h; exact rt
 ·refine AWp.skip ?_
  refine K_2 _ ?_
  refine AWp.seq fun _ K_4 => ?_
  refine sg fun K k => ?_
  iterate 3 refine oo ?_
  refine ct 4 [0, 1, 2, 3, 8] [1000] (fun  t => (32, .d (.bool ((decide (from1 < 0)) || (decide (n1 ≤ from1))))) :: t) ?_ ?_
  ·rcases bt (decide (from1 < 0)) with hg_6 | hg_6
   ·rw [hg_6]
    iterate 4 refine oo ?_
    refine AOps.nil ?_
    exact sb
   ·rw [hg_6]
    iterate 4 refine oo ?_
    refine AOps.nil ?_
    exact sb
  refine oo ?_
  refine ct 3 [0, 1, 2, 3, 8] [1000] (fun  t => (36, .d (.bool (((decide (from1 < 0)) || (decide (n1 ≤ from1))) || (decide (to1 < 0))))) :: t) ?_ ?_
  ·rcases bt ((decide (from1 < 0)) || (decide (n1 ≤ from1))) with hg_8 | hg_8
   ·rw [hg_8]
    iterate 3 refine oo ?_
    refine AOps.nil ?_
    exact sb
   ·rw [hg_8]
    iterate 3 refine oo ?_
    refine AOps.nil ?_
    exact sb
  refine oo ?_
  refine ct 4 [0, 1, 2, 3, 8] [1000] (fun  t => (41, .d (.bool ((((decide (from1 < 0)) || (decide (n1 ≤ from1))) || (decide (to1 < 0))) || (decide (n1 ≤ to1))))) :: t) ?_ ?_
  ·rcases bt (((decide (from1 < 0)) || (decide (n1 ≤ from1))) || (decide (to1 < 0))) with hg_10 | hg_10
   ·rw [hg_10]
    iterate 4 refine oo ?_
    refine AOps.nil ?_
    exact sb
   ·rw [hg_10]
    iterate 4 refine oo ?_
    refine AOps.nil ?_
    exact sb
  refine AOps.nil (k _ ?_)
  refine cd h (fun h => ?_) (fun h => ?_)
  ·refine sg fun K k => ?_
   iterate 4 refine oo ?_
   refine AOps.nil (k _ ?_)
   refine AWp.ret ?_
   cases h; exact rt
  ·refine AWp.skip ?_
   refine K_4 _ ?_
   refine sg fun K k => ?_
   iterate 2 refine oo ?_
   obtain ⟨r2, hx_12, h⟩ := bind_some h
   refine cl (m_cocketref01_gaining_ok n1 l1 _ hx_12) ?_
   iterate 5 refine oo ?_
   refine AOps.nil (k _ ?_)
   refine AWp.seq fun _ K_13 => ?_
   refine sg fun K k => ?_
   refine oo ?_
   refine AOps.nil (k _ ?_)
   refine cd h (fun h => ?_) (fun h => ?_)
   ·refine sg fun K k => ?_
    iterate 4 refine oo ?_
    refine AOps.nil (k _ ?_)
    refine AWp.ret ?_
    cases h; exact rt
   ·refine AWp.skip ?_
    refine K_13 _ ?_
    refine sg fun K k => ?_
    iterate 4 refine oo ?_
    obtain ⟨r3, hx_15, h⟩ := bind_some h
    refine cl (m_cocketref01_best_ok n1 l1 from1 to1 _ hx_15) ?_
    iterate 8 refine oo ?_
    refine AOps.nil (k _ ?_)
    refine AWp.seq fun _ K_16 => ?_
    refine sg fun K k => ?_
    iterate 2 refine oo ?_
    refine AOps.nil (k _ ?_)
    refine cd h (fun h => ?_) (fun h => ?_)
    ·refine sg fun K k => ?_
     iterate 4 refine oo ?_
     refine AOps.nil (k _ ?_)
     refine AWp.ret ?_
     cases h; exact rt
    ·refine AWp.skip ?_
     refine K_16 _ ?_
     refine sg fun K k => ?_
     refine oo ?_
     obtain ⟨r4, hx_18, h⟩ := bind_some h
     refine cl (m_cocketref01_ToRatio_ok r3.1 1152921504606846976 _ hx_18) ?_
     iterate 6 refine oo ?_
     refine AOps.nil (k _ ?_)
     refine sg fun K k => ?_
     iterate 5 refine oo ?_
     refine AOps.nil (k _ ?_)
     refine AWp.ret ?_
     cases h; exact rt
end Go.Pv.Tryd

namespace Go.Pv.Tryd
open Go.Proofs Go.Pv
theorem m_cocketlaw01_offers_ok (a1 : (List Offer)) (b1 : (List Offer)) (r : Bool) (h : m_cocketlaw01_offers a1 b1 = some r) : PureFn Tryd.prog G 22 [.d (.imm 4 (lenc Offer.pd a1)), .d (.imm 4 (lenc Offer.pd b1))] (.d (.bool r)) := by
 unfold m_cocketlaw01_offers at h
 refine pf Tryd.func22 Tryd.ntmps22 ?_
 refine sg fun K k => ?_
 refine oo ?_
 refine AOps.nil (k _ ?_)
 refine AWp.seq fun _ K_1 => ?_
 refine sg fun K k => ?_
 iterate 5 refine oo ?_
 refine AOps.nil (k _ ?_)
 refine cd h (fun h => ?_) (fun h => ?_)
 ·refine sg fun K k => ?_
  refine oo ?_
  refine AOps.nil (k _ ?_)
  refine AWp.ret ?_
  cases h; exact rt
 ·refine AWp.skip ?_
  refine K_1 _ ?_
  refine jm (ι := Unit) [] [] (fun i t => t) (fun i t => t) .inl h ?_ ?_
  ·intro _ hj_4 h
   refine sg fun K k => ?_
   refine oo ?_
   refine AOps.nil (k _ ?_)
   refine AWp.block ?_
   obtain ⟨x_9, hl_6, h2_7⟩ := bind_some hj_4
   refine lp (S := Int) [0, 1] [] (fun i t => (5, .d (.int .i64 i)) :: t) (fun i t => t) hl_6 ?_ ?_; exact sb; clear hl_6
   rintro i1 _ hb_8; unfold m_cocketlaw01_offers_l1 at hb_8; try dsimp only at hb_8
   try dsimp only
   refine AWp.seq fun _ K_11 => ?_
   refine sg fun K k => ?_
   iterate 4 refine oo ?_
   refine AOps.nil (k _ ?_)
   refine cd hb_8 (fun hb_8 => ?_) (fun hb_8 => ?_)
   ·refine AWp.skip ?_
    refine K_11 _ ?_
    refine AWp.seq fun _ K_13 => ?_
    refine AWp.block ?_
    refine sd mo fun K k => ?_
    obtain ⟨e1, ⟨f_14, f_15, f_16, f_17⟩, hb_8⟩ := idx_bind hb_8
    iterate 3 refine dd ?_
    refine dd ?_ (by intro K k; simp (disch := omega) only [go_sem, f_16, ↓reduceIte]; exact k)
    obtain ⟨e2, ⟨f_18, f_19, f_20, f_21⟩, hb_8⟩ := idx_bind hb_8
    iterate 3 refine dd ?_
    refine dd ?_ (by intro K k; simp (disch := omega) only [go_sem, f_20, ↓reduceIte]; exact k)
    refine ddx ?_ (by intro K k; simp (disch := omega) only [go_sem, fsl43, ↓reduceIte]; exact k)
    refine DOps.nil (by kernel_rfl) (k _ ?_)
    refine cd hb_8 (fun hb_8 => ?_) (fun hb_8 => ?_)
    ·refine sg fun K k => ?_
     refine oo ?_
     refine AOps.nil (k _ ?_)
     refine AWp.ret ?_
     refine lx hb_8 fun hx => ?_; cases hx; try dsimp only at h2_7
     cases h2_7; try dsimp only at h
     cases h; exact rt
    ·refine AWp.skip ?_
     refine K_13 _ ?_
     refine AWp.reg ?_
     iterate 3 refine oo ?_
     refine AOps.nil ?_
     exact ln hb_8 sb
   ·refine AWp.exit ?_
    refine lx hb_8 fun hx => ?_; cases hx; try dsimp only at h2_7
    exact ln h2_7 sb
  ·rintro _ h; dsimp only at h ⊢
   refine sg fun K k => ?_
   refine oo ?_
   refine AOps.nil (k _ ?_)
   refine AWp.ret ?_
   cases h; exact rt
end Go.Pv.Tryd

namespace Go.Pv
def kfind {α : Type} [DecidableEq α] (a : α) : List α → Option Nat
  | [] => none
  | b :: l => if a = b then some 0 else (kfind a l).map (· + 1)
structure KeyEnc (P : Program) (kt : TypeId) {α : Type} [DecidableEq α] (enc : α → PD) (val : α → Value) : Prop where
  uniq : ∀ {w : World} {ok : Nat → Nat → Prop} {v : Value} {a : α}, RepD w ok v (enc a) → v = val a
  check : ∀ (w : World) (em : Bool) (a : α), (Instr.checkKey em 10000 kt (val a)).run P w = .ok () w
  find : ∀ (w : World) (a : α) (es : List MapEntry) (ks : List α), es.map (·.key) = ks.map val → (Instr.findKey kt (val a) es).run P w = .ok ((kfind a ks).map fun j => (j, (es.getD j default).val)) w
  stays : ∀ (w : World) (a : α), (Instr.keyThatStays (val a) (val a)).run P w = .ok (val a) w
theorem findNow_of {α : Type} [DecidableEq α] {d : TypeDesc} {val : α → Value} (h : ∀ a b, Instr.sameNow d (val a) (val b) = some (decide (a = b))) (a : α) : ∀ (es : List MapEntry) (ks : List α) (i : Nat), es.map (·.key) = ks.map val →
    Instr.findNow d (val a) es i = some ((kfind a ks).map fun j => (i + j, (es.getD j default).val))
  | [], ks, i, he => by
    have : ks = [] := by simpa using he.symm
    subst this; rfl
  | e :: es, [], i, he => by simp at he
  | e :: es, b :: ks, i, he => by
    simp only [List.map_cons, List.cons.injEq] at he
    simp only [Instr.findNow, he.1, h, kfind]
    by_cases hab : a = b
    · simp [hab]
    · simp only [hab, decide_false, if_false]
      rw [findNow_of h a es ks (i + 1) he.2]
      cases kfind a ks with
      | none => rfl
      | some j => simp [Nat.add_comm, Nat.add_left_comm]
theorem KeyEnc.plain {P : Program} {kt : TypeId} {d : TypeDesc} {α : Type} [DecidableEq α] {enc : α → PD} {val : α → Value} (hk : P.underlying kt = some d) (hik : ∀ a, MapKept.IsKey d (val a)) (hu : ∀ {w : World} {ok : Nat → Nat → Prop} {v : Value} {a : α}, RepD w ok v (enc a) → v = val a)
    (h : ∀ a b, Instr.sameNow d (val a) (val b) = some (decide (a = b))) : KeyEnc P kt enc val where
  uniq := hu
  check w em a := MapKept.run_checkKey hk (hik a) em 9999
  find w a es ks he := by
    have := findNow_of h a es ks 0 he
    rw [MapKept.run_findKey hk this]
    simp
  stays w a := MapKept.run_keyThatStays (hik a)
theorem KeyEnc.int {P : Program} {kt : TypeId} {k : IntKind} (hk : P.underlying kt = some (.int k)) : KeyEnc P kt (PD.int k) (Value.int k) :=
  .plain hk (fun a => by simp [MapKept.IsKey]) (fun h => repD_int h) fun a b => by
    simp only [Instr.sameNow, if_true]
    by_cases h : a = b <;> simp [h]
theorem KeyEnc.str {P : Program} {kt : TypeId} (hk : P.underlying kt = some .string) : KeyEnc P kt PD.str Value.string :=
  .plain hk (fun a => by simp [MapKept.IsKey]) (fun h => repD_str h) fun a b => by
    simp only [Instr.sameNow]
    congr 1
    rw [beq_toListBytes, Bool.eq_iff_iff, beq_iff_eq, decide_eq_true_iff]
    constructor
    · intro h
      have h2 : a.data = b.data := by rw [ByteArray.toList_eq, ByteArray.toList_eq] at h; exact Array.toList_inj.1 h
      cases a; cases b; simpa using h2
    · rintro rfl; rfl
section
variable {P : Program} {w : World}
theorem findAsking_of {α : Type} [DecidableEq α] {kt : TypeId} {val : α → Value} (h : ∀ a b, (Op.equal kt (val a) (val b)).run P w = .ok (decide (a = b)) w) (a : α) : ∀ (es : List MapEntry) (ks : List α) (i : Nat), es.map (·.key) = ks.map val →
    (Instr.findAsking kt (val a) es i).run P w = .ok ((kfind a ks).map fun j => (i + j, (es.getD j default).val)) w
  | [], ks, i, he => by
    have : ks = [] := by simpa using he.symm
    subst this; simp [Instr.findAsking, kfind]
  | e :: es, [], i, he => by simp at he
  | e :: es, b :: ks, i, he => by
    simp only [List.map_cons, List.cons.injEq] at he
    simp only [Instr.findAsking, he.1, Sem.run_bind, h, Result.andThen_ok, kfind]
    by_cases hab : a = b
    · simp [hab]
    · simp only [hab, decide_false, if_false, Bool.false_eq_true]
      rw [findAsking_of h a es ks (i + 1) he.2]
      cases kfind a ks with
      | none => rfl
      | some j => simp [Nat.add_comm, Nat.add_left_comm]
theorem eqItems_ints {e : TypeId} {k : IntKind} (he : P.underlying e = some (.int k)) (d : Nat) (l m : List Int) : ∀ is : List Nat, (∀ i ∈ is, i < l.length ∧ i < m.length) →
    (Op.eqItems (d + 1) e 1 ((l.map (Value.int k)).toArray) ((m.map (Value.int k)).toArray) is).run P w = .ok (is.all fun i => decide (l[i]? = m[i]?)) w
  | [], _ => by simp [Op.eqItems]
  | i :: is, h => by
    obtain ⟨h1, h2⟩ := h i (by simp)
    have hp : P.plainKey e = true := by simp [Program.plainKey, he]
    have e1 : (part e ((l.map (Value.int k)).toArray) (i * 1)).run P w = .ok (.int k l[i]) w := run_part_plain w hp (by simp [h1])
    have e2 : (part e ((m.map (Value.int k)).toArray) (i * 1)).run P w = .ok (.int k m[i]) w := run_part_plain w hp (by simp [h2])
    have e3 := run_equalIn_int (P := P) w d e k k l[i] m[i] (by simp [he])
    simp only [Op.eqItems, Sem.run_bind, e1, e2, e3, Result.andThen_ok, List.all_cons, List.getElem?_eq_getElem h1, List.getElem?_eq_getElem h2, Option.some.injEq]
    by_cases hab : l[i] = m[i]
    · simp only [hab, beq_self_eq_true, Bool.not_true, Bool.false_eq_true, if_false, decide_true, Bool.true_and]
      exact eqItems_ints he d l m is fun j hj => h j (by simp [hj])
    · simp [hab]
theorem checkKey_ints {kt e : TypeId} {k : IntKind} {n : Nat} {i : TypeInfo} (hk : P.underlying kt = some (.array n e)) (hi : P.info? e = some i) (hs : i.size = 1) (he : P.underlying e = some (.int k)) (em : Bool) (d : Nat) (l : List Int) (hl : l.length = n) :
    (Instr.checkKey em (d + 2) kt (.agg ((l.map (Value.int k)).toArray))).run P w = .ok () w := by
  have hp : P.plainKey e = true := by simp [Program.plainKey, he]
  have hsz : (sizeOf e).run P w = .ok 1 w := by simp [sizeOf, typeInfo, Sem.run_bind, program, Sem.run, hi, hs, Result.andThen]
  rw [Instr.checkKey]
  simp only [Sem.run_bind, run_underlying hk, Result.andThen_ok]
  simp only [Std.Legacy.Range.forIn_eq_forIn_range', Std.Legacy.Range.size, Nat.sub_zero, Nat.add_one_sub_one, Nat.div_one]
  have hall : ∀ is : List Nat, (∀ j ∈ is, j < l.length) → (forIn is PUnit.unit (fun j _ => do
        let s ← sizeOf e
        let v ← part e ((l.map (Value.int k)).toArray) (j * s)
        Instr.checkKey em (d + 1) e v
        pure (ForInStep.yield PUnit.unit)) : Sem PUnit).run P w = .ok PUnit.unit w := by
    intro is
    induction is with
    | nil => intro _; simp
    | cons j is ih =>
      intro h
      have h1 := h j (by simp)
      have e1 : (part e ((l.map (Value.int k)).toArray) (j * 1)).run P w = .ok (.int k l[j]) w := run_part_plain w hp (by simp [h1])
      have e2 : (Instr.checkKey em (d + 1) e (.int k l[j])).run P w = .ok () w := MapKept.run_checkKey he (by simp [MapKept.IsKey]) em d
      simp only [List.forIn_cons, Sem.run_bind, hsz, Result.andThen_ok, e1, e2, Sem.run_pure]
      exact ih fun j hj => h j (by simp [hj])
  have := hall (List.range' 0 n) (fun j hj => by simp at hj; omega)
  rw [this]; rfl
theorem KeyEnc.ints {kt e : TypeId} {k : IntKind} {n : Nat} {i : TypeInfo} (hk : P.underlying kt = some (.array n e)) (hi : P.info? e = some i) (hs : i.size = 1) (he : P.underlying e = some (.int k)) {α : Type} [DecidableEq α] (toL : α → List Int) (hn : ∀ a, (toL a).length = n) (hj : ∀ a b, toL a = toL b → a = b) :
    KeyEnc P kt (fun a => PD.agg ((toL a).map (PD.int k))) (fun a => Value.agg ((toL a).map (Value.int k)).toArray) where
  uniq {w ok v a} h := by
    cases h with
    | @agg vs _ hs h hf =>
      refine congrArg Value.agg (Array.ext (by simpa using hs) fun j h1 h2 => ?_)
      · have h3 : j < (toL a).length := by simpa using h2
        have := h j (by simpa using h3)
        simp only [List.getElem_map] at this
        have := repD_int this
        simp only [Array.getD, h1, dite_true] at this
        simpa using this
  check w em a := checkKey_ints hk hi hs he em 9998 (toL a) (hn a)
  find w a es ks hes := by
    have hc : P.cellsOf e = 1 := by simp [Program.cellsOf, hi, hs]
    have heq : ∀ a b, (Op.equal kt (.agg ((toL a).map (Value.int k)).toArray) (.agg ((toL b).map (Value.int k)).toArray)).run P w = .ok (decide (a = b)) w := fun a b => by
      have h1 := run_equalIn_array (P := P) (w := w) 9999 ((toL a).map (Value.int k)).toArray ((toL b).map (Value.int k)).toArray hk hi
      rw [hc] at h1
      have h2 := eqItems_ints (P := P) (w := w) he 9998 (toL a) (toL b) (List.range n) (fun i hi => by rw [hn, hn]; simpa using hi)
      rw [h2] at h1
      refine h1.trans ?_
      congr 1
      rw [Bool.eq_iff_iff, List.all_eq_true, decide_eq_true_iff]
      constructor
      · intro h
        refine hj a b (List.ext_getElem? fun j => ?_)
        by_cases hjn : j < n
        · simpa using h j (by simpa using hjn)
        · rw [List.getElem?_eq_none (by rw [hn]; omega), List.getElem?_eq_none (by rw [hn]; omega)]
      · rintro rfl j _; simp
    rw [run_findKey_eq w (by simp [hk])]
    have := findAsking_of (P := P) (w := w) (val := fun a => Value.agg ((toL a).map (Value.int k)).toArray) heq a es ks 0 hes
    simpa using this
  stays w a := by
    have h : ∀ l : List Int, Instr.sameBits 10000 (.agg ((l.map (Value.int k)).toArray)) (.agg ((l.map (Value.int k)).toArray)) = true := fun l => by
      simp only [Instr.sameBits, beq_self_eq_true, Bool.true_and, List.all_eq_true]
      rintro ⟨x, y⟩ hxy
      have : x = y ∧ ∃ n, x = Value.int k n := by
        simp only [List.zip_map', List.mem_map] at hxy
        simp at hxy
        obtain ⟨z, _, h1, h2⟩ := hxy
        exact ⟨h1.symm.trans h2, z, h1.symm⟩
      obtain ⟨rfl, n, rfl⟩ := this
      simp [Instr.sameBits]
    simp only [Instr.keyThatStays, h, if_true, Sem.run_pure]
end
def ment {α β : Type} (encK : α → PD) (encV : β → PD) (e : α × β) : PV := .tuple [.d (encK e.1), .d (encV e.2)]
def mels {α β : Type} (encK : α → PD) (encV : β → PD) (L : List (α × β)) : List PV := L.map (ment encK encV)
def mget {α β : Type} [DecidableEq α] (a : α) : List (α × β) → Option β
  | [] => none
  | e :: l => if a = e.1 then some e.2 else mget a l
theorem mget_kfind {α β : Type} [DecidableEq α] (a : α) : ∀ l : List (α × β), mget a l = (kfind a (l.map Prod.fst)).bind fun j => (l[j]?).map Prod.snd
  | [] => rfl
  | e :: l => by
    simp only [mget, List.map_cons, kfind]
    split
    · rfl
    · rw [mget_kfind a l]
      cases kfind a (l.map Prod.fst) with
      | none => rfl
      | some j => rfl
theorem kfind_lt {α : Type} [DecidableEq α] {a : α} : ∀ {l : List α} {j : Nat}, kfind a l = some j → l[j]? = some a
  | [], j, h => by simp [kfind] at h
  | b :: l, j, h => by
    simp only [kfind] at h
    split at h
    · rename_i e; simp only [Option.some.injEq] at h; subst h; subst e; rfl
    · simp only [Option.map_eq_some_iff] at h
      obtain ⟨i, h1, rfl⟩ := h
      simpa using kfind_lt h1
section
variable {P : Program} {G : List (Nat × PD)} {ro : Option Nat} {N : Nat} {o : Oper} {σ : St} {K : St → Prop}
theorem map_row {w : World} {X : Nat → Nat → Prop} {φ : Nm} {H : Heap} {b e : Nat} {α β : Type} [DecidableEq α] {kt : TypeId} {encK : α → PD} {valK : α → Value} {encV : β → PD} {L : List (α × β)} (hK : KeyEnc P kt encK valK) (h : RowOk w X φ H b ⟨e, 0, mels encK encV L⟩) :
    ∃ es cl, w.heap[b]? = some (.map es cl) ∧ es.size = L.length ∧ es.toList.map (·.key) = (L.map Prod.fst).map valK ∧ ∀ j (hj : j < L.length), RepV w X φ H (es.toList.getD j default).val (.d (encV L[j].2)) := by
  obtain ⟨es, cl, h1, h2, h3⟩ := h.map rfl
  have hl : (mels encK encV L).length = L.length := by simp [mels]
  have hget : ∀ j (hj : j < L.length), (es.toList.getD j default).key = valK L[j].1 ∧ RepV w X φ H (es.toList.getD j default).val (.d (encV L[j].2)) := fun j hj => by
    have h4 := h3 j (by rw [hl]; exact hj)
    have e1 : (mels encK encV L)[j]'(by rw [hl]; exact hj) = .tuple [.d (encK L[j].1), .d (encV L[j].2)] := by simp [mels, ment]
    have e0 : es.getD j default = es.toList.getD j default := by simp [Array.getD_eq_getD_getElem?]
    rw [e1, e0] at h4
    cases h4 with
    | tuple hs h5 =>
      have h6 := h5 0 (by simp)
      have h7 := h5 1 (by simp)
      exact ⟨hK.uniq (repV_d h6), h7⟩
  have h2' : es.size = L.length := by rw [h2]; simp [mels]
  refine ⟨es, cl, h1, h2', ?_, fun j hj => (hget j hj).2⟩
  apply List.ext_getElem
  · simpa using h2'
  · intro j hj1 hj2
    have hj : j < L.length := by simpa using hj2
    have := (hget j hj).1
    simp only [List.getElem_map]
    rw [← this]
    simp [List.getD, h2', hj]
theorem OpT.lookup {α β : Type} [DecidableEq α] {kt et t : TypeId} {x ix : Operand} {cok : Bool} {r e : Nat} {L : List (α × β)} {k : α} {v0 : β} {encK : α → PD} {valK : α → Value} {encV : β → PD} {y : Ty} {z : Value} (hK : KeyEnc P kt encK valK)
    (ho : o.op = .lookup t x ix cok) (ht : P.underlying t = some (.map kt et)) (hx : σ.eval x = .mp r) (hrow : hget σ.heap r = some ⟨e, 0, mels encK encV L⟩) (hi : σ.eval ix = .d (encK k)) (hy : tyOf P et = some y) (hz : y.zero = some z)
    (hzv : ∀ (w : World) (ok : Nat → Nat → Prop), RepD w ok z (encV v0)) (hd : dstOk N o.dst)
    (hk : K (σ.put o.dst (if cok then .tuple [.d (encV ((mget k L).getD v0)), .d (.bool (mget k L).isSome)] else .d (encV ((mget k L).getD v0))))) : OpT P G ro N o σ K := by
  intro B hro a w φ hr next Q hn
  have hxv := hr.eval x
  rw [hx] at hxv
  generalize hav : a.eval x = av at hxv
  cases hxv with | mp hx2 hb hk0 =>
  rename_i b x2
  rw [hrow] at hx2; cases hx2
  have hiv := hr.eval ix
  rw [hi] at hiv
  have hiv := hK.uniq (repV_d hiv)
  obtain ⟨es, cl, h1, h2, h3, h4⟩ := map_row hK (hr.heap.rows r _ b hrow hb)
  have hf := hK.find w k es.toList (L.map Prod.fst) h3
  have hc := hK.check w es.isEmpty k
  have hzr := run_tyZero hy hz w
  obtain ⟨u, hu, hur⟩ : ∃ u : Value × Bool, (Instr.lookup t (a.eval x) (a.eval ix) cok).run P w = .ok (if cok then .tuple #[u.1, .bool u.2] else u.1) w ∧ RepV w B.X φ σ.heap u.1 (.d (encV ((mget k L).getD v0))) ∧ u.2 = (mget k L).isSome := by
    rw [mget_kfind, hav, hiv]
    simp only [Instr.lookup, Sem.run_bind, run_underlying ht, Result.andThen_ok, MapKept.run_getObj_map h1, Sem.run_pure, hc, hf]
    cases hj : kfind k (L.map Prod.fst) with
    | none => exact ⟨(z, false), by simp only [Option.map_none, Sem.run_bind, hzr, Result.andThen_ok, Sem.run_pure], .d (hzv _ _), rfl⟩
    | some j =>
      have hjl : j < L.length := by
        have := kfind_lt hj
        obtain ⟨h, _⟩ := List.getElem?_eq_some_iff.1 this
        simpa using h
      refine ⟨((es.toList.getD j default).val, true), by simp only [Option.map_some, Sem.run_bind]; rfl, ?_, by simp [hjl]⟩
      have := h4 j hjl
      simpa [hjl] using this
  refine wpIn_value (u := if cok then .tuple #[u.1, .bool u.2] else u.1) (w' := w) ?_ (hn _ _ _ φ hk (hr.put hd ?_))
  · rw [Oper.semAt_eq _ _ _ (fun c hc => by rw [ho] at hc; cases hc)]
    simp only [execOp, ho]
    exact run_v hu
  · cases cok with
    | false => exact hur.1
    | true =>
      refine .tuple rfl fun i hi => ?_
      match i, hi with
      | 0, _ => exact hur.1
      | 1, _ => rw [← hur.2]; exact .d (.bool _)
end
end Go.Pv

namespace Go.Pv
def hdrop (gs : List Nat) : Heap → Heap
  | [] => []
  | (r, x) :: l => if gs.contains r = true then hdrop gs l else (r, x) :: hdrop gs l
theorem hget_hdrop (gs : List Nat) : ∀ (H : Heap) (s : Nat), hget (hdrop gs H) s = if s ∈ gs then none else hget H s
  | [], s => by simp [hdrop, hget]
  | (r, x) :: l, s => by
    simp only [hdrop]
    by_cases hr : gs.contains r = true
    · rw [if_pos hr, hget_hdrop gs l s]
      by_cases hs : s ∈ gs
      · simp [hs]
      · simp only [hs, if_false, hget]
        rw [if_neg (fun e => hs (by subst e; simpa using hr))]
    · rw [if_neg hr]
      simp only [hget, hget_hdrop gs l s]
      by_cases hrs : r = s
      · subst hrs
        have : ¬ r ∈ gs := by simpa using hr
        simp [this]
      · simp [hrs]
structure ExtU (gs : List Nat) (w : World) (X : Nat → Nat → Prop) (φ : Nm) (H : Heap) (w' : World) (φ' : Nm) (H' : Heap) : Prop where
  dom : ∀ s x, s ∉ gs → hget H s = some x → ∃ x', hget H' s = some x' ∧ x'.k = x.k ∧ (1 ≤ x.k → x'.els.length = x.els.length) ∧ φ' s = φ s
  okd : ∀ b k, okd w X φ H b k → okd w' X φ' H' b k
  okb : ∀ b k, okb w φ H b k → okb w' φ' H' b k
  blk : ∀ b k, Pv.okb w φ H b k → w'.heap[b]? = w.heap[b]?
  sz : ∀ s x b, s ∉ gs → hget H s = some x → φ s = some b → ∀ c e f, w'.heap[b]? = some (.cells c e f) → ∃ c0 e0 f0, w.heap[b]? = some (.cells c0 e0 f0) ∧ c0.size = c.size
theorem RepV.extU {gs : List Nat} {w w' : World} {X : Nat → Nat → Prop} {φ φ' : Nm} {H H' : Heap} (h : ExtU gs w X φ H w' φ' H') {v : Value} {p : PV} (hv : RepV w X φ H v p) : (∀ r ∈ rowsOf p, r ∉ gs) → RepV w' X φ' H' v p := by
  induction hv with
  | any v => intro _; exact .any v
  | d hd => intro _; exact .d (hd.mono h.okd (fun b k hb => h.blk b k (okb_of_okd hb)))
  | b hd => intro _; exact .b (hd.mono h.okb h.blk)
  | ptr hx hb hk =>
    intro hg
    obtain ⟨x', h1, h2, _, h4⟩ := h.dom _ _ (hg _ (by simp [rowsOf])) hx
    rw [← h2]
    exact .ptr h1 (h4.trans hb) (h2 ▸ hk)
  | dptr hd hi => intro _; exact .dptr (hd.mono h.okd (fun b k hb => h.blk b k (okb_of_okd hb))) hi
  | bptr hd hi => intro _; exact .bptr (hd.mono h.okb h.blk) hi
  | glob g => intro _; exact .glob g
  | val hf => intro _; exact .val hf
  | slc hx hb hk hn hc hl hz =>
    intro hg
    obtain ⟨x', h1, h2, h3, h4⟩ := h.dom _ _ (hg _ (by simp [rowsOf])) hx
    have h3 := h3 hk
    rw [← h2]
    refine .slc h1 (h4.trans hb) (h2 ▸ hk) (h3 ▸ hn) hc (h3 ▸ hl) (fun c e f hh => ?_)
    obtain ⟨c0, e0, f0, h5, h6⟩ := h.sz _ _ _ (hg _ (by simp [rowsOf])) hx hb c e f hh
    rw [h2, ← h6]
    exact hz _ _ _ h5
  | slc0 hx hb hk hp =>
    intro hg
    obtain ⟨x', h1, h2, _, h4⟩ := h.dom _ _ (hg _ (by simp [rowsOf])) hx
    exact .slc0 h1 (h4.trans hb) (h2 ▸ hk) hp
  | mp hx hb hk =>
    intro hg
    obtain ⟨x', h1, h2, _, h4⟩ := h.dom _ _ (hg _ (by simp [rowsOf])) hx
    exact .mp h1 (h4.trans hb) (h2 ▸ hk)
  | func hs _ ih => intro hg; simp only [rowsOf] at hg; exact .func hs fun i hi => ih i hi fun r hr => hg r (rowsOfL_mem hi hr)
  | agg hs _ hf ih => intro hg; simp only [rowsOf] at hg; exact .agg hs (fun i hi => ih i hi fun r hr => hg r (rowsOfL_mem hi hr)) hf
  | tuple hs _ ih => intro hg; simp only [rowsOf] at hg; exact .tuple hs fun i hi => ih i hi fun r hr => hg r (rowsOfL_mem hi hr)
theorem rowsOfL_mem' {l : List PV} {p : PV} (hp : p ∈ l) {r : Nat} (h : r ∈ rowsOf p) : r ∈ rowsOfL l := by
  obtain ⟨i, hi, rfl⟩ := List.getElem_of_mem hp
  exact rowsOfL_mem hi h
structure HandU (σ : St) (H : Heap) (g : Nat → Nat) (gs : List Nat) : Prop where
  h0 : Hand0 σ H g
  giv : ∀ r x, hget H r = some x → 1000 ≤ r → g r ∈ gs
  pin : ∀ r x, hget H r = some x → r < 1000 → g r ∉ gs
  all : ∀ s ∈ gs, ∃ r x, hget H r = some x ∧ g r = s
  big : ∀ s ∈ gs, 1000 ≤ s
  env : ∀ s ∈ gs, ∀ t, s ∉ rowsOf (eget σ.env t)
  dfr : ∀ s ∈ gs, s ∉ rowsOfL σ.dfr
  out : ∀ s ∈ gs, ∀ t y, hget σ.heap t = some y → (∀ r x, hget H r = some x → g r ≠ t) → s ∉ rowsOfL y.els
structure BackU (σ : St) (H H' : Heap) (g ρ : Nat → Nat) (gs : List Nat) : Prop where
  old : ∀ r x', hget H' r = some x' → r < 1000 → ∃ x, hget H r = some x ∧ ρ r = g r ∧ x'.k = x.k ∧ (1 ≤ x.k → x'.els.length = x.els.length)
  all : ∀ r x, hget H r = some x → r < 1000 → ∃ x', hget H' r = some x'
  new : ∀ r x', hget H' r = some x' → 1000 ≤ r → (hget σ.heap (ρ r) = none ∨ ρ r ∈ gs) ∧ 1000 ≤ ρ r
  inj : ∀ r s x y, hget H' r = some x → hget H' s = some y → ρ r = ρ s → r = s
  refs : ∀ r x, hget H' r = some x → refsInL H' x.els ∧ cleanL x.els
structure MergedU (σ : St) (H' : Heap) (ρ : Nat → Nat) (gs : List Nat) (H2 : Heap) : Prop where
  inn : ∀ r x, hget H' r = some x → hget H2 (ρ r) = some (x.ren ρ)
  out : ∀ s, (∀ r x, hget H' r = some x → ρ r ≠ s) → hget H2 s = if s ∈ gs then none else hget σ.heap s
section
variable {P : Program} {G : List (Nat × PD)} {B : Base P} {N : Nat} {σ : St} {a : Act} {w w' : World} {φ φ' : Nm} {H H' H2 : Heap} {g ρ : Nat → Nat} {gs : List Nat}
theorem BackU.merged (hb : BackU σ H H' g ρ gs) : MergedU σ H' ρ gs (hmerge ρ H' (hdrop gs σ.heap)) := by
  obtain ⟨h1, h2⟩ := hmerge_ok (ρ := ρ) (l := H') (H0 := hdrop gs σ.heap) (fun r s hr hs he => by
    obtain ⟨x, hx⟩ := Option.isSome_iff_exists.1 hr
    obtain ⟨y, hy⟩ := Option.isSome_iff_exists.1 hs
    exact hb.inj r s x y hx hy he)
  exact ⟨h1, fun s hn => (h2 s hn).trans (hget_hdrop _ _ _)⟩
open Classical in
theorem backNm_inU {φ' : Nm} (hi : ∀ r s x y, hget H' r = some x → hget H' s = some y → ρ r = ρ s → r = s) {r : Nat} {x : Row} (h : hget H' r = some x) : (backNm φ φ' H' ρ none) (ρ r) = φ' r := by
  have hex : ∃ r', (hget H' r').isSome = true ∧ ρ r' = ρ r := ⟨r, by rw [h]; rfl, rfl⟩
  show (if h : ∃ r', (hget H' r').isSome = true ∧ ρ r' = ρ r then φ' (Classical.choose h) else φ (ρ r)) = _
  rw [dif_pos hex]
  obtain ⟨h1, h2⟩ := Classical.choose_spec hex
  obtain ⟨y, hy⟩ := Option.isSome_iff_exists.1 h1
  rw [hi _ _ _ _ hy h h2]
structure CameU (hr : Rep G B N σ a w φ) (H H' H2 : Heap) (g ρ : Nat → Nat) (gs : List Nat) (g' : Gh) (w' : World) (φ' : Nm) : Prop where
  hh : HandU σ H g gs
  hb : BackU σ H H' g ρ gs
  hm : MergedU σ H' ρ gs H2
  hs : Sit G (hr.bc H g none) w' φ' H' g'
variable {g' : Gh} {hr : Rep G B N σ a w φ} (c : CameU hr H H' H2 g ρ gs g' w' φ')
include c
theorem CameU.old {b : Nat} (hlt : b < w.heap.size) (h : ¬ own (handNm φ H g none) H b) : w'.heap[b]? = w.heap[b]? := c.hs.keeps.block b hlt h
theorem CameU.out_own {s b : Nat} {y : Row} (hn : ∀ r x, hget H' r = some x → ρ r ≠ s) (hg : s ∉ gs) (hy : hget σ.heap s = some y) (hφ : φ s = some b) : ¬ own (handNm φ H g none) H b := by
  rintro (⟨r, x, hx, hrb⟩ | hT)
  · rw [handNm_f hx] at hrb
    have e := hr.heap.inj _ _ _ _ b (c.hh.h0.row r x hx) hy hrb hφ
    rcases Nat.lt_or_ge r 1000 with h | h
    · obtain ⟨x', hx'⟩ := c.hb.all r x hx h
      obtain ⟨_, _, h2, _⟩ := c.hb.old r x' hx' h
      exact hn r x' hx' (h2.trans e)
    · exact hg (e ▸ c.hh.giv r x hx h)
  · simp [handNm] at hT
theorem CameU.handed {r : Nat} {x' : Row} (hx' : hget H' r = some x') (hp : r < 1000) : ∃ x, hget H r = some x ∧ ρ r = g r ∧ x'.k = x.k ∧ (1 ≤ x.k → x'.els.length = x.els.length) ∧ φ' r = φ (g r) := by
  obtain ⟨x, h1, h2, h3, h4⟩ := c.hb.old r x' hx' hp
  refine ⟨x, h1, h2, h3, h4, ?_⟩
  have := c.hs.pins r x' hx' (by simp [pinned, hp])
  exact this.trans (handNm_f (φ := φ) (g := g) (gc := none) h1)
theorem CameU.row_of {b : Nat} (h : rowB (backNm φ φ' H' ρ none) H2 b) : rowB φ' H' b ∨ ∃ s y, (∀ r x, hget H' r = some x → ρ r ≠ s) ∧ s ∉ gs ∧ hget σ.heap s = some y ∧ φ s = some b := by
  obtain ⟨s, y, h1, h2⟩ := h
  by_cases hex : ∃ r x, hget H' r = some x ∧ ρ r = s
  · obtain ⟨r, x, hx, rfl⟩ := hex
    rw [backNm_inU c.hb.inj hx] at h2
    exact .inl ⟨r, x, hx, h2⟩
  · have hn : ∀ r x, hget H' r = some x → ρ r ≠ s := fun r x hx e => hex ⟨r, x, hx, e⟩
    rw [backNm_out hn] at h2
    rw [c.hm.out s hn] at h1
    split at h1
    · cases h1
    · rename_i hg
      exact .inr ⟨s, y, hn, hg, h1, h2⟩
theorem CameU.own_old {b : Nat} (hlt : b < w.heap.size) (h : own (backNm φ φ' H' ρ none) H2 b) : own φ σ.heap b := by
  rcases h with h | h
  · rcases c.row_of h with ⟨r, x, hx, hφ⟩ | ⟨s, y, _, _, hy, hφ⟩
    · rcases c.hs.new r x b hx hφ with h | h
      · exact hand_own c.hh.h0 h
      · exact absurd hlt (Nat.not_lt.2 h)
    · exact .inl ⟨s, y, hy, hφ⟩
  · exact .inr (by simpa [backNm] using h)
theorem CameU.own_new {b kk : Nat} (hX : ¬ (hr.bc H g none).X b kk) (ho : ¬ own φ' H' b) : ¬ own (backNm φ φ' H' ρ none) H2 b := by
  rintro (h | h)
  · rcases c.row_of h with h | ⟨s, y, hn, hg, hy, hφ⟩
    · exact ho (.inl h)
    · exact hX (.inr ⟨.inl ⟨s, y, hy, hφ⟩, c.out_own hn hg hy hφ⟩)
  · have h : φ.T b := by simpa [backNm] using h
    refine hX (.inr ⟨.inr h, ?_⟩)
    rintro (h2 | h2)
    · exact (hr.heap.far b h).2.2 (hand_row c.hh.h0 h2)
    · simp [handNm] at h2
theorem CameU.lt1000 {s r0 : Nat} {x0' y : Row} (hg : s ∉ gs) (hx0 : hget H' r0 = some x0') (he : ρ r0 = s) (hy : hget σ.heap s = some y) : r0 < 1000 := by
  rcases Nat.lt_or_ge r0 1000 with h | h
  · exact h
  · rcases (c.hb.new r0 x0' hx0 h).1 with h1 | h1
    · rw [he, hy] at h1; cases h1
    · exact absurd (he ▸ h1) hg
theorem CameU.ext : ExtU gs w B.X φ σ.heap w' (backNm φ φ' H' ρ none) H2 := by
  have hsz := c.hs.keeps.size
  refine ⟨fun r x hg hx => ?_, fun b kk h => ⟨Nat.lt_of_lt_of_le h.1 hsz, h.2.1, fun ho => h.2.2 (c.own_old h.1 ho)⟩, fun b kk h => ⟨Nat.lt_of_lt_of_le h.1 hsz, fun ho => h.2 (c.own_old h.1 ho)⟩,
    fun b kk h => c.old h.1 (fun ho => h.2 (hand_own c.hh.h0 ho)), fun r x b hg hx hφ cs e f hcs => ?_⟩
  · by_cases hex : ∃ r0 x0, hget H' r0 = some x0 ∧ ρ r0 = r
    · obtain ⟨r0, x0', hx0, rfl⟩ := hex
      have hp := c.lt1000 hg hx0 rfl hx
      obtain ⟨x0, h1, h2, h3, h4, h5⟩ := c.handed hx0 hp
      have h6 := c.hh.h0.row r0 x0 h1
      rw [← h2, hx] at h6
      simp only [Option.some.injEq] at h6; subst h6
      refine ⟨x0'.ren ρ, c.hm.inn r0 x0' hx0, h3, fun hk => by simp only [Row.ren, renL_length]; exact h4 hk, ?_⟩
      rw [backNm_inU c.hb.inj hx0, h5, h2]
    · have hn : ∀ r0 x0, hget H' r0 = some x0 → ρ r0 ≠ r := fun r0 x0 h e => hex ⟨r0, x0, h, e⟩
      exact ⟨x, (c.hm.out r hn).trans (by rw [if_neg hg]; exact hx), rfl, fun _ => rfl, backNm_out hn⟩
  · have hw' : csz w' b = cs.size := by unfold csz; rw [hcs]
    have hcsz : csz w b = csz w' b → ∃ c0 e0 f0, w.heap[b]? = some (.cells c0 e0 f0) ∧ c0.size = cs.size := fun hcz => by
      obtain ⟨o, h1, h2⟩ := (hr.heap.rows r x b hx hφ).some
      cases o with
      | cells c0 e0 f0 => exact ⟨c0, e0, f0, h1, by rw [← hw', ← hcz]; unfold csz; rw [h1]⟩
      | map es cl =>
        exfalso
        have hk0 : x.k = 0 := Nat.eq_zero_of_not_pos fun hk => by
          obtain ⟨_, _, _, h3, _⟩ := (hr.heap.rows r x b hx hφ).here hk
          rw [h1] at h3; cases h3
        by_cases hex : ∃ r0 x0, hget H' r0 = some x0 ∧ ρ r0 = r
        · obtain ⟨r0, x0', hx0, rfl⟩ := hex
          have hp := c.lt1000 hg hx0 rfl hx
          obtain ⟨x0, h4, h5, h6, _, h7⟩ := c.handed hx0 hp
          have h8 := c.hh.h0.row r0 x0 h4
          rw [← h5, hx] at h8
          simp only [Option.some.injEq] at h8
          have h9 : x0'.k = 0 := by rw [h6, ← hk0, h8]; rfl
          obtain ⟨_, _, h10, _⟩ := (c.hs.heap.rows r0 x0' b hx0 (by rw [h7, ← h5]; exact hφ)).map h9
          rw [hcs] at h10; cases h10
        · have hn : ∀ r0 x0, hget H' r0 = some x0 → ρ r0 ≠ r := fun r0 x0 h e => hex ⟨r0, x0, h, e⟩
          have := c.old (hr.heap.lt hx hφ) (c.out_own hn hg hx hφ)
          rw [hcs, h1] at this; cases this
      | _ => cases h2
    refine hcsz ?_
    by_cases hex : ∃ r0 x0, hget H' r0 = some x0 ∧ ρ r0 = r
    · obtain ⟨r0, x0', hx0, rfl⟩ := hex
      have hp := c.lt1000 hg hx0 rfl hx
      obtain ⟨x0, h1, h2, h3, h4, h5⟩ := c.handed hx0 hp
      exact (c.hs.psz r0 x0' b hx0 (by simp [pinned, hp]) (by rw [h5, ← h2]; exact hφ)).symm
    · have hn : ∀ r0 x0, hget H' r0 = some x0 → ρ r0 ≠ r := fun r0 x0 h e => hex ⟨r0, x0, h, e⟩
      exact (csz_of (c.old (hr.heap.lt hx hφ) (c.out_own hn hg hx hφ))).symm
theorem CameU.okd {b kk : Nat} (h : okd w' (hr.bc H g none).X φ' H' b kk) : okd w' B.X (backNm φ φ' H' ρ none) H2 b kk := ⟨h.1, fun hX => h.2.1 (.inl hX), c.own_new h.2.1 h.2.2⟩
theorem CameU.val {v : Value} {p : PV} (hv : RepV w' (hr.bc H g none).X φ' H' v p) : clean p → refsIn H' p → RepV w' B.X (backNm φ φ' H' ρ none) H2 v (p.ren ρ) := by
  have hd : ∀ {v : Value} {x : PD}, RepD w' (Pv.okd w' (hr.bc H g none).X φ' H') v x → RepD w' (Pv.okd w' B.X (backNm φ φ' H' ρ none) H2) v x := fun h => h.mono (fun b k hb => c.okd hb) (fun _ _ _ => rfl)
  induction hv with
  | any v => intro _ _; simp only [PV.ren]; exact .any v
  | d h => intro _ _; simp only [PV.ren]; exact .d (hd h)
  | b h => intro h0 _; simp [clean] at h0
  | @ptr r i off b x hx hφ hk => intro _ _; simp only [PV.ren]; exact RepV.ptr (x := x.ren ρ) (c.hm.inn _ _ hx) ((backNm_inU c.hb.inj hx).trans hφ) hk
  | @mp r b x hx hφ hk => intro _ _; simp only [PV.ren]; exact RepV.mp (x := x.ren ρ) (c.hm.inn _ _ hx) ((backNm_inU c.hb.inj hx).trans hφ) hk
  | dptr h hi => intro _ _; simp only [PV.ren]; exact .dptr (hd h) hi
  | bptr h hi => intro h0 _; simp [clean] at h0
  | glob n => intro _ _; simp only [PV.ren]; exact .glob n
  | val hf => intro _ _; simp only [PV.ren]; exact .val hf
  | @slc r lo n cap b x hx hφ hk hn hc hl hz => intro _ _; simp only [PV.ren]; exact RepV.slc (x := x.ren ρ) (c.hm.inn _ _ hx) ((backNm_inU c.hb.inj hx).trans hφ) hk (by simpa [Row.ren, renL_length] using hn) hc (by simpa [Row.ren, renL_length] using hl) hz
  | @slc0 r x p hx hφ hk hp => intro _ _; simp only [PV.ren]; exact RepV.slc0 (x := x.ren ρ) (c.hm.inn _ _ hx) ((backNm_inU c.hb.inj hx).trans hφ) hk hp
  | func hs _ ih =>
    intro h0 h1
    simp only [clean] at h0; simp only [refsIn] at h1
    simp only [PV.ren]
    refine .func (by rw [renL_length]; exact hs) (fun i hi => ?_)
    rw [renL_length] at hi
    rw [renL_get _ _ i hi]
    exact ih i hi (cleanL_get h0 i hi) (refsInL_get h1 i hi)
  | agg hs _ hf ih =>
    intro h0 h1
    simp only [clean] at h0; simp only [refsIn] at h1
    simp only [PV.ren]
    refine .agg (by rw [renL_length]; exact hs) (fun i hi => ?_) (fun i hi => hf i (by rw [renL_length] at hi; exact hi))
    rw [renL_length] at hi
    rw [renL_get _ _ i hi]
    exact ih i hi (cleanL_get h0 i hi) (refsInL_get h1 i hi)
  | tuple hs _ ih =>
    intro h0 h1
    simp only [clean] at h0; simp only [refsIn] at h1
    simp only [PV.ren]
    refine .tuple (by rw [renL_length]; exact hs) (fun i hi => ?_)
    rw [renL_length] at hi
    rw [renL_get _ _ i hi]
    exact ih i hi (cleanL_get h0 i hi) (refsInL_get h1 i hi)
omit c in
theorem Dfr.extU {m : Nat → Prop} {gs : List Nat} {w w' : World} {X : Nat → Nat → Prop} {φ φ' : Nm} {H H' : Heap} {ds : List Deferred} {ps : List PV} (h : Dfr m w X φ H ds ps) (he : ExtU gs w X φ H w' φ' H') (hg : ∀ r ∈ rowsOfL ps, r ∉ gs) : Dfr m w' X φ' H' ds ps := by
  have := h.map (f := id) (fun D h => ⟨he.okd D 0 h, he.blk D 0 (okb_of_okd h)⟩) (fun p hp v hv => hv.extU he fun r hr => hg r (rowsOfL_mem' hp hr))
  simpa using this
omit c in
theorem GlobOk.extU {gs : List Nat} {G : List (Nat × PD)} {X : Nat → Nat → Prop} {w w' : World} {φ φ' : Nm} {H H' : Heap} (h : ExtU gs w X φ H w' φ' H') (hg : GlobOk G w X φ H) (hlt : ∀ g x, (g, x) ∈ G → ¬ own φ' H' g) : GlobOk G w' X φ' H' := by
  intro g x hm
  obtain ⟨c, e, f, v, h1, h2, h3, h4, h5⟩ := hg g x hm
  have hlt' : g < w.heap.size := (Array.getElem?_eq_some_iff.1 h1).1
  refine ⟨c, e, f, v, (h.blk g 0 ⟨hlt', h2⟩).trans h1, hlt g x hm, h3.mono h.okd (fun b k hb => h.blk b k (okb_of_okd hb)), h4, h5⟩
theorem CameU.rep : Rep G B N { σ with heap := H2 } a w' (backNm φ φ' H' ρ none) := by
  have he := c.ext
  have hsz := c.hs.keeps.size
  have hnewB : ∀ b, own φ σ.heap b → B.o0 b ∨ B.w0.heap.size ≤ b := fun b h => h.elim (fun ⟨r, x, h1, h2⟩ => hr.new r x b h1 h2) (fun h => hr.tnew b h)
  have hlt : ∀ {s y b}, hget σ.heap s = some y → φ s = some b → b < w.heap.size := fun h1 h2 => hr.heap.lt h1 h2
  have hout : ∀ {s y}, hget H2 s = some y → (∀ r x, hget H' r = some x → ρ r ≠ s) → s ∉ gs ∧ hget σ.heap s = some y := fun {s y} h hn => by
    rw [c.hm.out s hn] at h
    split at h
    · cases h
    · rename_i hg; exact ⟨hg, h⟩
  have hT0 : (backNm φ φ' H' ρ none).T = φ.T := by funext b; simp [backNm]
  refine ⟨hr.size, fun t => (hr.env t).extU he (fun r hr' hg => c.hh.env r hg t hr'), ⟨fun s y b hs hb => ?_, fun s y hs hb => ?_, fun s t y z b hs ht hb hb' => ?_, fun b hT => ?_⟩, ⟨c.hs.keeps.os.trans hr.keeps.os, c.hs.keeps.tape.trans hr.keeps.tape, c.hs.keeps.output.trans hr.keeps.output, Nat.le_trans hr.keeps.size hsz, fun b hb ho => ?_⟩,
    fun s y b hs hb => ?_, fun s y hs hp => ?_, fun s y b hs hp hb => ?_, hr.glob.extU he (fun n x hm => ?_), fun b hT => ?_, ?_, hr.dfr.extU he (fun r hr' hg => c.hh.dfr r hg hr')⟩
  -- rows
  · by_cases hex : ∃ r x, hget H' r = some x ∧ ρ r = s
    · obtain ⟨r, x, hx, rfl⟩ := hex
      rw [backNm_inU c.hb.inj hx] at hb
      have hs' := c.hm.inn r x hx
      rw [hs] at hs'; simp only [Option.some.injEq] at hs'; subst hs'
      refine (c.hs.heap.rows r x b hx hb).turn rfl rfl (by simp [Row.ren, renL_length]) (fun _ _ h => h) (fun kk hX => (c.hs.heap.rows r x b hx hb).free kk (.inl hX)) (fun i hi' _ v h4 => ?_) fun z hz => by simp only [Row.ren, renL_map]; exact hz.map fun p hp => ren_byte ρ hp
      have := c.val h4 (cleanL_get (c.hb.refs r x hx).2 i hi') (refsInL_get (c.hb.refs r x hx).1 i hi')
      simp only [Row.ren]
      rw [renL_get _ _ i hi']
      exact this
    · have hn : ∀ r x, hget H' r = some x → ρ r ≠ s := fun r x h e => hex ⟨r, x, h, e⟩
      obtain ⟨hg, hs⟩ := hout hs hn
      rw [backNm_out hn] at hb
      have hnH : ∀ r x, hget H r = some x → g r ≠ s := fun r x hx e => by
        rcases Nat.lt_or_ge r 1000 with h | h
        · obtain ⟨x', hx'⟩ := c.hb.all r x hx h
          obtain ⟨_, _, h2, _⟩ := c.hb.old r x' hx' h
          exact hn r x' hx' (h2.trans e)
        · exact hg (e ▸ c.hh.giv r x hx h)
      exact (hr.heap.rows s y b hs hb).turn rfl rfl rfl (fun _ _ h => (c.old (hlt hs hb) (c.out_own hn hg hs hb)).trans h) (hr.heap.rows s y b hs hb).free (fun i hi _ v hv => hv.extU he fun r hr' hgr => c.hh.out r hgr s y hs hnH (rowsOfL_mem hi hr')) fun _ h => h
  · by_cases hex : ∃ r x, hget H' r = some x ∧ ρ r = s
    · obtain ⟨r, x, hx, rfl⟩ := hex
      rw [backNm_inU c.hb.inj hx] at hb
      have hs' := c.hm.inn r x hx
      rw [hs] at hs'; simp only [Option.some.injEq] at hs'; subst hs'
      simp only [Row.ren, c.hs.heap.void r x hx hb, renL]
    · have hn : ∀ r x, hget H' r = some x → ρ r ≠ s := fun r x h e => hex ⟨r, x, h, e⟩
      rw [backNm_out hn] at hb
      exact hr.heap.void s y (hout hs hn).2 hb
  -- no two rows in one block
  · have key : ∀ {s t : Nat} {y z : Row}, (∃ r x, hget H' r = some x ∧ ρ r = s) → (∀ r x, hget H' r = some x → ρ r ≠ t) → hget H2 t = some z → (backNm φ φ' H' ρ none) s = some b → (backNm φ φ' H' ρ none) t = some b → False := by
      rintro s t y z ⟨r, x, hx, rfl⟩ hn ht h1 h2
      rw [backNm_inU c.hb.inj hx] at h1
      rw [backNm_out hn] at h2
      obtain ⟨hg, ht⟩ := hout ht hn
      rcases c.hs.new r x b hx h1 with h | h
      · exact c.out_own hn hg ht h2 h
      · exact absurd (hlt ht h2) (Nat.not_lt.2 h)
    by_cases h1 : ∃ r x, hget H' r = some x ∧ ρ r = s <;> by_cases h2 : ∃ r x, hget H' r = some x ∧ ρ r = t
    · obtain ⟨r, x, hx, rfl⟩ := h1
      obtain ⟨r', x', hx', rfl⟩ := h2
      rw [backNm_inU c.hb.inj hx] at hb
      rw [backNm_inU c.hb.inj hx'] at hb'
      rw [c.hs.heap.inj r r' x x' b hx hx' hb hb']
    · exact (key (y := y) h1 (fun r x h e => h2 ⟨r, x, h, e⟩) ht hb hb').elim
    · exact (key (y := z) h2 (fun r x h e => h1 ⟨r, x, h, e⟩) hs hb' hb).elim
    · have hn1 : ∀ r x, hget H' r = some x → ρ r ≠ s := fun r x h e => h1 ⟨r, x, h, e⟩
      have hn2 : ∀ r x, hget H' r = some x → ρ r ≠ t := fun r x h e => h2 ⟨r, x, h, e⟩
      rw [backNm_out hn1] at hb
      rw [backNm_out hn2] at hb'
      exact hr.heap.inj s t y z b (hout hs hn1).2 (hout ht hn2).2 hb hb'
  -- what is somebody else's
  · rw [hT0] at hT
    obtain ⟨h1, h2, h3⟩ := hr.heap.far b hT
    refine ⟨Nat.lt_of_lt_of_le h1 hsz, h2, fun h => ?_⟩
    rcases c.row_of h with ⟨r, x, hx, hφ⟩ | ⟨s, y, hn, _, hy, hφ⟩
    · rcases c.hs.new r x b hx hφ with h | h
      · rcases h with h | h
        · exact h3 (hand_row c.hh.h0 h)
        · simp [handNm] at h
      · exact absurd h1 (Nat.not_lt.2 h)
    · exact h3 ⟨s, y, hy, hφ⟩
  · refine (c.old (Nat.lt_of_lt_of_le hb hr.keeps.size) (fun h => ?_)).trans (hr.keeps.block b hb ho)
    rcases hnewB b (hand_own c.hh.h0 h) with h | h
    · exact ho h
    · omega
  -- new
  · by_cases hex : ∃ r x, hget H' r = some x ∧ ρ r = s
    · obtain ⟨r, x, hx, rfl⟩ := hex
      rw [backNm_inU c.hb.inj hx] at hb
      rcases c.hs.new r x b hx hb with h | h
      · exact hnewB b (hand_own c.hh.h0 h)
      · exact .inr (Nat.le_trans hr.keeps.size h)
    · have hn : ∀ r x, hget H' r = some x → ρ r ≠ s := fun r x h e => hex ⟨r, x, h, e⟩
      rw [backNm_out hn] at hb
      exact hr.new s y b (hout hs hn).2 hb
  · by_cases hex : ∃ r x, hget H' r = some x ∧ ρ r = s
    · obtain ⟨r, x, hx, rfl⟩ := hex
      rw [backNm_inU c.hb.inj hx]
      rcases Nat.lt_or_ge r 1000 with h | h
      · obtain ⟨x0, h1, h2, _, _, h5⟩ := c.handed hx h
        rw [h5, h2]
        exact hr.pins _ _ (c.hh.h0.row r x0 h1) (h2 ▸ hp)
      · have := (c.hb.new r x hx h).2
        simp only [pinned, decide_eq_true_eq] at hp; omega
    · have hn : ∀ r x, hget H' r = some x → ρ r ≠ s := fun r x h e => hex ⟨r, x, h, e⟩
      rw [backNm_out hn]
      exact hr.pins s y (hout hs hn).2 hp
  · by_cases hex : ∃ r x, hget H' r = some x ∧ ρ r = s
    · obtain ⟨r, x, hx, rfl⟩ := hex
      rw [backNm_inU c.hb.inj hx] at hb
      rcases Nat.lt_or_ge r 1000 with h | h
      · obtain ⟨x0, h1, h2, _, _, h5⟩ := c.handed hx h
        exact (c.hs.psz r x b hx (by simp [pinned, h]) hb).trans (hr.psz _ _ b (c.hh.h0.row r x0 h1) (h2 ▸ hp) (by rw [← h5]; exact hb))
      · have := (c.hb.new r x hx h).2
        simp only [pinned, decide_eq_true_eq] at hp; omega
    · have hn : ∀ r x, hget H' r = some x → ρ r ≠ s := fun r x h e => hex ⟨r, x, h, e⟩
      obtain ⟨hg, hs⟩ := hout hs hn
      rw [backNm_out hn] at hb
      exact (csz_of (c.old (hlt hs hb) (c.out_own hn hg hs hb))).trans (hr.psz s y b hs hp hb)
  · obtain ⟨cs, e, f, v, h1, h2, _⟩ := hr.glob n x hm
    exact fun ho => h2 (c.own_old (Array.getElem?_eq_some_iff.1 h1).1 ho)
  · exact hr.tnew b (hT0 ▸ hT)
  -- the loop's body
  · refine J_step (w := w) (φ := φ) (H := σ.heap) hr.inv hT0 c.hs.keeps.os c.hs.keeps.tape c.hs.keeps.output hsz (fun b hlt hn => c.old hlt fun ho => ?_) (fun b h => ?_)
    · rcases ho with h | h
      · exact hn (hand_row c.hh.h0 h)
      · simp [handNm] at h
    · rcases c.row_of h with ⟨r, x, hx, hφ⟩ | ⟨s, y, hn, _, hy, hφ⟩
      · rcases c.hs.new r x b hx hφ with h | h
        · rcases h with h | h
          · exact .inl (hand_row c.hh.h0 h)
          · simp [handNm] at h
        · exact .inr h
      · exact .inl ⟨s, y, hy, hφ⟩
end
section
variable {P : Program} {G : List (Nat × PD)} {ro : Option Nat} {B : Base P} {N : Nat} {σ τ : St} {a : Act} {w w' : World} {φ φ' : Nm} {H H' H2 : Heap} {g ρ : Nat → Nat} {gs : List Nat} {o : Oper} {K : St → Prop}
end
end Go.Pv

namespace Go.Pv
def ObjFn (P : Program) (G : List (Nat × PD)) (f : FuncId) (args : List PV) (H : Heap) (res : PV) (H' : Heap) : Prop := Fn P G f args H fun p K => p = res ∧ K = H'
@[go_sem] theorem mels_nil {α β : Type} (k : α → PD) (v : β → PD) : mels k v [] = [] := rfl
@[go_sem] theorem mels_ren {α β : Type} (ρ : Nat → Nat) (k : α → PD) (v : β → PD) (L : List (α × β)) : renL ρ (mels k v L) = mels k v L := by
  induction L with
  | nil => simp [mels, renL]
  | cons e l ih => simp only [mels, List.map_cons, renL] at ih ⊢; rw [ih]; simp [ment, PV.ren, renL]
@[go_sem] theorem mels_clean {α β : Type} (k : α → PD) (v : β → PD) (L : List (α × β)) : cleanL (mels k v L) = True := by
  induction L with
  | nil => simp [mels, cleanL]
  | cons e l ih => simp only [mels, List.map_cons, cleanL] at ih ⊢; rw [ih]; simp [ment, clean, cleanL]
@[go_sem] theorem mels_rows {α β : Type} (k : α → PD) (v : β → PD) (L : List (α × β)) : rowsOfL (mels k v L) = [] := by
  induction L with
  | nil => simp [mels, rowsOfL]
  | cons e l ih => simp only [mels, List.map_cons, rowsOfL] at ih ⊢; rw [ih]; simp [ment, rowsOf, rowsOfL]
@[go_sem] theorem mels_kill {α β : Type} (r : Nat) (k : α → PD) (v : β → PD) (L : List (α × β)) : killL r (mels k v L) = mels k v L := by
  induction L with
  | nil => simp [mels, killL]
  | cons e l ih => simp only [mels, List.map_cons, killL] at ih ⊢; rw [ih]; simp [ment, PV.kill, killL]
@[go_sem] theorem mels_refs {α β : Type} (H : Heap) (k : α → PD) (v : β → PD) (L : List (α × β)) : refsInL H (mels k v L) = True := by
  induction L with
  | nil => simp [mels, refsInL]
  | cons e l ih => simp only [mels, List.map_cons, refsInL] at ih ⊢; rw [ih]; simp [ment, refsIn, refsInL]
@[go_sem] theorem mels_length {α β : Type} (k : α → PD) (v : β → PD) (L : List (α × β)) : (mels k v L).length = L.length := by simp [mels]
def optP (b : Bool) (r : Nat) : PV := match b with
  | true => .ptr r 0 0
  | false => .d .nilptr
def optRows (b : Bool) (r : Nat) : List Nat := match b with
  | true => [r]
  | false => []
@[go_sem] theorem optP_ren (g : Nat → Nat) (b : Bool) (r : Nat) : (optP b r).ren g = optP b (g r) := by cases b <;> simp [optP, PV.ren]
@[go_sem] theorem optP_kill (q : Nat) (b : Bool) (r : Nat) : (optP b r).kill q = if r = q then (match b with | true => .any | false => .d .nilptr) else optP b r := by
  cases b <;> simp [optP, PV.kill]
@[go_sem] theorem optP_clean (b : Bool) (r : Nat) : clean (optP b r) = True := by cases b <;> simp [optP, clean]
@[go_sem] theorem optP_refs {H : Heap} {b : Bool} {r : Nat} (h : (hget H r).isSome = true) : refsIn H (optP b r) = True := by cases b <;> simp [optP, refsIn, h]
@[go_sem] theorem optP_rows (b : Bool) (r : Nat) : rowsOf (optP b r) = optRows b r := by cases b <;> simp [optP, rowsOf, optRows]
@[go_sem] theorem optP_cells (b : Bool) (r : Nat) : pvCells (optP b r) = some [optP b r] := by cases b <;> rfl
@[go_sem] theorem optP_sb (b : Bool) (r : Nat) : isByte (optP b r) = false := by cases b <;> rfl
section
variable {P : Program} {G : List (Nat × PD)} {ro : Option Nat} {N : Nat} {ops : Array Oper} {σ τ σ' : St} {o : Oper} {rest : List Oper}
theorem ObjFn.pf {f : FuncId} {fn : Func} {c : Code} {args : List PV} {H H' : Heap} {res : PV} {n : Nat} {e0 : List (Nat × PV)} (hf : P.funcs[f]? = some fn) (hn : fn.ntmps = n)
    (h : AWp P G none n c ⟨e0, H, [], none⟩ (Fin P G fn fun p K => p = res ∧ heapLe H' K)) (hb : fn.body = some c := by rfl) (hN : args.length ≤ n := by simp)
    (he : argEnv 0 args = e0 := by (simp only [argEnv, Nat.reduceAdd, Nat.zero_add]; rfl)) (hrf : refsIn H' res := by first | exact trivial | exact rfl | (simp only [go_sem, ↓reduceIte]; done))
    (hrh : heapRefs H' H' := by (repeat' (first | exact trivial | exact row_refs _ _ | exact rfl | exact dyR rfl | exact dyS rfl | refine heapLe_dyn rfl ?_ | refine heapRefs_dyn ?_ | exact nelF_refs (by repeat' (first | exact trivial | decide | apply And.intro)) | apply And.intro | (simp only [go_sem, ↓reduceIte]; done)))) : ObjFn P G f args H res H' := by
  subst hn he
  intro B φ vs h0 h1 h2 h3
  refine (Fn.intro hf hb hN h B φ vs h0 h1 h2 h3).mono ?_
  rintro e' w' ⟨v, p, K, g', φ', he, ⟨rfl, hle⟩, hv, hs⟩
  exact ⟨v, _, H', g', φ', he, ⟨rfl, rfl⟩, hv.less (fun r x hx => heapLe_get hle r x hx) hrf, hs.less (fun r x hx => heapLe_get hle r x hx) (fun r x hx => heapRefs_get hrh r x hx)⟩
def handLU (Hc : Heap) (g : Nat → Nat) (H0 : Heap) : Heap → Prop
  | [] => True
  | (r, x) :: l => (hget Hc (g r) = some (x.ren g) ∧ refsInL H0 x.els) ∧ handLU Hc g H0 l
def givL (g : Nat → Nat) (gs : List Nat) : Heap → Prop
  | [] => True
  | (r, _) :: l => (if r < 1000 then gs.contains (g r) = false else gs.contains (g r) = true) ∧ givL g gs l
def imgL (g : Nat → Nat) (H : Heap) : List Nat → Prop
  | [] => True
  | s :: l => ((H.any fun x => g x.1 == s) = true ∧ 1000 ≤ s) ∧ imgL g H l
def freeEnv (gs : List Nat) : List (Nat × PV) → Prop
  | [] => True
  | (_, v) :: l => ((rowsOf v).any fun r => gs.contains r) = false ∧ freeEnv gs l
def freeHeap (g : Nat → Nat) (H : Heap) (gs : List Nat) : Heap → Prop
  | [] => True
  | (s, x) :: l => ((H.any fun y => g y.1 == s) = true ∨ ((rowsOfL x.els).any fun r => gs.contains r) = false) ∧ freeHeap g H gs l
def backLU (H : Heap) (g : Nat → Nat) (gs : List Nat) (H0 : Heap) : Heap → Prop
  | [] => True
  | (r, x) :: l => ((if r < 1000 then match hget H r with
      | some y => x.k = y.k ∧ (x.k = 0 ∨ x.els.length = y.els.length)
      | none => False
    else gs.contains (g r) = true ∧ 1000 ≤ g r) ∧ refsInL H0 x.els ∧ cleanL x.els) ∧ backLU H g gs H0 l
theorem FnG.nilAt {P : Program} {G : List (Nat × PD)} {f : FuncId} {args : List PV} {H : Heap} {g : Gh} {R : PV → Heap → Gh → Prop} (i : Nat) {k : Nat} (h : FnG P G f args H g R) (hi : args[i]? = some (.d (.imm k []))) : FnG P G f (args.set i (.d .nilslice)) H g R := by
  intro B φ vs h0 h1 h2 h3
  have hl : args.length = (args.set i (.d .nilslice)).length := by simp
  refine h B φ vs h0 (h1.trans hl.symm) (fun j hj => ?_) h3
  have h4 := h2 j (by omega)
  by_cases hij : i = j
  · subst hij
    obtain ⟨_, e⟩ := List.getElem?_eq_some_iff.1 hi
    rw [e]
    rw [List.getElem_set_self] at h4
    exact h4.le (le_nil (f := PD.bool) k)
  · rw [List.getElem_set_ne hij] at h4; exact h4
theorem PureFn.nilAt {P : Program} {G : List (Nat × PD)} {f : FuncId} {args : List PV} {res : PV} (i : Nat) {k : Nat} (h : PureFn P G f args res) (hi : args[i]? = some (.d (.imm k []))) : PureFn P G f (args.set i (.d .nilslice)) res := FnG.nilAt i h hi
theorem ObjFn.nilAt {P : Program} {G : List (Nat × PD)} {f : FuncId} {args : List PV} {H H' : Heap} {res : PV} (i : Nat) {k : Nat} (h : ObjFn P G f args H res H') (hi : args[i]? = some (.d (.imm k []))) : ObjFn P G f (args.set i (.d .nilslice)) H res H' := FnG.nilAt i h hi
theorem RowFn.pure {P : Program} {G : List (Nat × PD)} {f : FuncId} {args : List PV} {e k : Nat} {l : List PD} (h : RowFn P G f args e k l) : PureFn P G f args (.d (.imm k l)) := by
  intro B φ vs h0 h1 h2 h3
  refine (h B φ vs h0 h1 h2 h3).mono ?_
  rintro e' w' ⟨v, p, H', g', φ', he, ⟨rfl, rfl⟩, hv, hs⟩
  have hf : frzT [(1000, { e, k, els := dl l })] (.slc 1000 0 l.length) = some (.d (.imm k l)) := by
    simp only [frzT, frz, hget, ↓reduceIte, dl_allD, Option.map_some, List.drop_zero, List.take_length]
  exact ⟨v, _, [], g', φ', he, ⟨rfl, rfl⟩, frzT_ok hs.heap hv hf, hs.drop⟩
end
attribute [go_sem] handLU givL imgL freeEnv freeHeap backLU hdrop hkills heapKeys killEff cellsAre codesIn
end Go.Pv

namespace Go.Pv
open Go.Lib
def bytesI (s : ByteArray) : List Int := s.data.toList.map fun b => (b.toNat : Int)
theorem bytesI_length (s : ByteArray) : (bytesI s).length = s.size := by simp [bytesI]
section
variable {P : Program} {G : List (Nat × PD)} {ro : Option Nat} {N : Nat} {o : Oper} {σ : St} {K : St → Prop}
theorem OpT.sliceData {c : Call} {x : Operand} {r n : Nat} (ho : o.op = .call c) (hc : c.callee = .builtin .unsafeSliceData) (hca : c.args = #[x]) (hx : σ.eval x = .slc r 0 n) (hn : n ≠ 0) (hd : dstOk N o.dst) (hK : K (σ.put o.dst (.ptr r 0 0))) : OpT P G ro N o σ K := by
  intro B hro a w φ hr next Q hnx
  have hv := hr.eval x
  rw [hx] at hv
  rcases repV_slc hv with ⟨_, _, h4, _⟩ | ⟨x2, b, cap, h3, hx2, hb, hle, hcp, hl, hzz⟩
  · exact absurd h4 hn
  · have hpos := repV_slc_pos hv hx2
    have hop : (o.semAt ro a.eval).run P w = .ok (.value (.pointer (some ⟨b, 0 * x2.k + 0, none⟩))) w := by
      rw [Oper.semAt_eq _ _ _ (fun c hc => by rw [ho] at hc; cases hc)]
      simp only [execOp, ho, hc, hca, resolve, invoke, builtin, Sem.run_bind, Sem.run_pure, Result.andThen_ok, List.map_toArray, List.map_cons, List.map_nil, h3, run_unsafeSliceData_row (P := P) w _ _ _ n cap (by omega), Nat.add_zero]
    exact wpIn_value hop (hnx _ _ _ φ hK (hr.put hd (.ptr hx2 hb hpos)))
theorem OpT.mkStr {c : Call} {x y : Operand} {pt it e r : Nat} {s : ByteArray} (ho : o.op = .call c) (hc : c.callee = .builtin .unsafeString) (hca : c.args = #[x, y]) (hct : c.argTypes = #[pt, it]) (hpt : P.underlying pt = some (.pointer e)) (hce : P.cellsOf e = 1)
    (hx : σ.eval x = .ptr r 0 0) (hy : σ.eval y = .d (.int .i64 s.size)) (hrow : hget σ.heap r = some ⟨e, 1, dl (lenc (PD.int .u8) (bytesI s))⟩) (hs0 : s.size ≠ 0) (hd : dstOk N o.dst) (hK : K (σ.put o.dst (.d (.str s)))) : OpT P G ro N o σ K := by
  intro B hro a w φ hr next Q hnx
  have hv := hr.eval x
  rw [hx] at hv
  have hyv := hr.eval y
  rw [hy] at hyv
  have hyv := repV_int hyv
  generalize hav : a.eval x = av at hv
  cases hv with | ptr h1 hb h2 =>
  rename_i b x2
  rw [hrow] at h1; cases h1
  obtain ⟨cs, C, z, h3, h4, h5, h6⟩ := (hr.heap.rows r _ b hrow hb).here h2
  have hll : (dl (lenc (PD.int .u8) (bytesI s))).length = s.size := by simp [dl, lenc, bytesI_length]
  have hsl : s.data.toList.length = s.size := by simp
  dsimp only at h3 h4 h5 h6
  rw [hll] at h4
  have hcs : cs.size = C := by rw [h4.1, Nat.mul_one]
  have hcell : ∀ j x, s.data.toList[j]? = some x → w.cell? ((⟨b, 0, none⟩ : Addr).add j) = some (.int .u8 x.toNat) := fun j x hj => by
    obtain ⟨hj', hjx⟩ := List.getElem?_eq_some_iff.1 hj
    obtain ⟨v, g1, g2, g3⟩ := h5 j (by rw [hll, ← hsl]; exact hj')
    have e1 : (dl (lenc (PD.int .u8) (bytesI s)))[j]'(by rw [hll, ← hsl]; exact hj') = .d (.int .u8 (x.toNat : Int)) := by simp [dl, lenc, bytesI, ← hjx]
    rw [e1] at g1
    have e2 := repV_int g1
    subst e2
    rw [add_eq, Nat.zero_add, cell_of_row w b j cs e (0, z) h3]
    have := (g3 0 Nat.one_pos).1
    simpa [Value.cells] using this
  have hrun := run_unsafeString_row (P := P) w pt it o.type e hpt hce b cs.size (by simp [World.shape?, h3]) s.data.toList (fun h => hs0 (by rw [← hsl, h]; rfl)) (by rw [hsl, hcs]; exact h4.2.1) (by rw [hsl]; have := h4.2.1; have := h4.2.2; unfold maxLen at this; omega) hcell
  rw [hsl] at hrun
  have hop : (o.semAt ro a.eval).run P w = .ok (.value (.string s)) (w.freeze ⟨b, 0, none⟩ s.size) := by
    rw [Oper.semAt_eq _ _ _ (fun c hc => by rw [ho] at hc; cases hc)]
    have e3 : (⟨s.data.toList.toArray⟩ : ByteArray) = s := by cases s; simp
    rw [e3] at hrun
    have e4 : (⟨b, 0 * 1 + 0, none⟩ : Addr) = ⟨b, 0, none⟩ := rfl
    simp only [execOp, ho, hc, hca, hct, resolve, invoke, builtin, Sem.run_bind, Sem.run_pure, Result.andThen_ok, List.map_toArray, List.map_cons, List.map_nil, hav, hyv, e4, hrun]
  have hw' : (w.freeze ⟨b, 0, none⟩ s.size).heap[b]? = some (.cells cs e (0, s.size)) := by
    have hz : z ≤ s.size := by have := h6.le; rw [hll] at this; exact this
    simp only [World.freeze, hs0, if_false, Array.getElem?_modify, if_true, h3, Option.map_some, Option.some.injEq, Obj.cells.injEq, true_and]
    by_cases hz0 : z = 0
    · subst hz0; simp
    · rw [if_neg (by simpa using Ne.symm hz0)]
      simp; omega
  have hoth : ∀ c, c ≠ b → (w.freeze ⟨b, 0, none⟩ s.size).heap[c]? = w.heap[c]? := fun c hc => by
    simp [World.freeze, hs0, Array.getElem?_modify, Ne.symm hc]
  have hsz : (w.freeze ⟨b, 0, none⟩ s.size).heap.size = w.heap.size := by simp [World.freeze, hs0]
  have hrep := hr.write (w' := w.freeze ⟨b, 0, none⟩ s.size) hrow hb h2 (els := dl (lenc (PD.int .u8) (bytesI s))) rfl h3 hw' (fun i hi => by
    have hi' : i < (bytesI s).length := by rw [bytesI_length]; exact hi
    exact ⟨.d (.int .u8 (bytesI s)[i]), by simp [dl, lenc, hi'], rfl⟩) rfl ⟨by simp [World.freeze, hs0], by simp [World.freeze, hs0], by simp [World.freeze, hs0], by rw [hsz]; exact Nat.le_refl _, fun c _ hc => hoth c hc⟩ hsz h5
  have hself : hput σ.heap r { (⟨e, 1, dl (lenc (PD.int .u8) (bytesI s))⟩ : Row) with els := dl (lenc (PD.int .u8) (bytesI s)) } = σ.heap := hput_self hrow
  rw [hself] at hrep
  exact wpIn_value hop (hnx _ _ _ φ hK (hrep.put hd (.d (.str s))))
variable {xs : Exc}
theorem OpX.sliceData {K : Foot → St → Prop} {c : Call} {x : Operand} {r n : Nat} (ho : o.op = .call c) (hc : c.callee = .builtin .unsafeSliceData) (hca : c.args = #[x]) (hx : σ.eval x = .slc r 0 n) (hn : n ≠ 0) (hd : dstOk N o.dst) (hxe : exE xs (dstEff o.dst (.ptr r 0 0)))
    (hK : K (some (tmpKeys (opnds o.op), dstKeys o.dst)) (σ.put o.dst (.ptr r 0 0))) : OpX P G ro N xs o σ K := by
  refine ⟨some (tmpKeys (opnds o.op), dstKeys o.dst), σ.put o.dst (.ptr r 0 0), ⟨dstEff o.dst (.ptr r 0 0), fun k hk => by rw [ekeys_dst] at hk; exact hk, hxe, fun σ' hd' hs _ => ?_, look_put _ _ _, St.put_rest _ _ _⟩, hK⟩
  have h1 := eval_agree (σ := σ) (σ' := σ') (l := opnds o.op) fun k hk => hs k hk
  have hmem : x ∈ opnds o.op := by rw [ho]; simp [opnds, hca]
  exact OpT.sliceData ho hc hca ((h1 x hmem).trans hx) hn hd ⟨by rw [St.put_rest]; exact hd', look_put _ _ _⟩
theorem OpX.mkStr {K : Foot → St → Prop} {c : Call} {x y : Operand} {pt it e r : Nat} {s : ByteArray} (ho : o.op = .call c) (hc : c.callee = .builtin .unsafeString) (hca : c.args = #[x, y]) (hct : c.argTypes = #[pt, it]) (hpt : P.underlying pt = some (.pointer e)) (hce : P.cellsOf e = 1)
    (hx : σ.eval x = .ptr r 0 0) (hy : σ.eval y = .d (.int .i64 s.size)) (hrow : hget σ.heap r = some ⟨e, 1, dl (lenc (PD.int .u8) (bytesI s))⟩) (hs0 : s.size ≠ 0) (hd : dstOk N o.dst) (hxe : exE xs (dstEff o.dst (.d (.str s))))
    (hK : K (some (.h r :: tmpKeys (opnds o.op), dstKeys o.dst)) (σ.put o.dst (.d (.str s)))) : OpX P G ro N xs o σ K := by
  refine ⟨some (.h r :: tmpKeys (opnds o.op), dstKeys o.dst), σ.put o.dst (.d (.str s)), ⟨dstEff o.dst (.d (.str s)), fun k hk => by rw [ekeys_dst] at hk; exact hk, hxe, fun σ' hd' hs _ => ?_, look_put _ _ _, St.put_rest _ _ _⟩, hK⟩
  have h1 := eval_agree (σ := σ) (σ' := σ') (l := opnds o.op) fun k hk => hs k (List.mem_cons_of_mem _ hk)
  have h2 : hget σ'.heap r = hget σ.heap r := by
    have := hs (.h r) (List.mem_cons_self ..)
    simpa only [St.look, Cont.r.injEq] using this
  have hm1 : x ∈ opnds o.op := by rw [ho]; simp [opnds, hca]
  have hm2 : y ∈ opnds o.op := by rw [ho]; simp [opnds, hca]
  exact OpT.mkStr ho hc hca hct hpt hce ((h1 x hm1).trans hx) ((h1 y hm2).trans hy) (h2.trans hrow) hs0 hd ⟨by rw [St.put_rest]; exact hd', look_put _ _ _⟩
theorem Sit.more {B : Base P} {w w' : World} {φ : Nm} {H : Heap} {g : Gh} (hro : B.ro = none) (hs : Sit G B w φ H g) (hsz : w.heap.size ≤ w'.heap.size) (hold : ∀ b, b < w.heap.size → w'.heap[b]? = w.heap[b]?) (hos : w'.os = w.os) (ht : w'.tape = w.tape) (hout : w'.output = w.output) : Sit G B w' φ H g := by
  have hr : Rep G B 0 ⟨[], H, [], g⟩ { tmps := #[], defers := [] } w φ := by
    refine Rep.of_sit hs rfl (fun t => .any _) ?_
    rw [B.hheld hro]; exact .nil
  exact (hr.world (ext_more hsz hold (fun s x c h1 h2 => hr.heap.lt h1 h2)) ⟨hos, ht, hout, hsz, fun c h _ => hold c h⟩ (fun s x c h1 h2 => hold c (hr.heap.lt h1 h2)) (fun c h _ => hold c h)).sit
def handKeys (g : Nat → Nat) : Heap → List Key
  | [] => []
  | (r, _) :: l => .h (g r) :: handKeys g l
def allClean : Heap → Prop
  | [] => True
  | (_, x) :: l => cleanL x.els ∧ allClean l
end
attribute [go_sem] handKeys allClean
end Go.Pv

namespace Go.Pv
section
variable {P : Program} {G : List (Nat × PD)} {B : Base P} {N : Nat} {σ τ : St} {a : Act} {w : World} {φ φ' : Nm} {H H' : Heap} {ρ : Nat → Nat}
theorem Row.ren_len (x : Row) : (x.ren ρ).els.length = x.els.length := by simp [Row.ren, renL_length]
theorem RepV.renamed {X : Nat → Nat → Prop} (hrow : ∀ r x, hget H r = some x → hget H' (ρ r) = some (x.ren ρ) ∧ φ' (ρ r) = φ r) (hown : ∀ b, own φ' H' b ↔ own φ H b) {v : Value} {p : PV} (h : RepV w X φ H v p) : RepV w X φ' H' v (p.ren ρ) := by
  have hd : ∀ b kk, okd w X φ H b kk → okd w X φ' H' b kk := fun b kk hb => ⟨hb.1, hb.2.1, fun ho => hb.2.2 ((hown b).1 ho)⟩
  have hb' : ∀ b kk, okb w φ H b kk → okb w φ' H' b kk := fun b kk hb => ⟨hb.1, fun ho => hb.2 ((hown b).1 ho)⟩
  induction h with
  | any v => simp only [PV.ren]; exact .any v
  | d h => simp only [PV.ren]; exact .d (h.mono hd (fun _ _ _ => rfl))
  | b h => simp only [PV.ren]; exact .b (h.mono hb' (fun _ _ _ => rfl))
  | @ptr r i off b x hx hb hk =>
    simp only [PV.ren]
    obtain ⟨h1, h2⟩ := hrow _ _ hx
    exact .ptr (x := x.ren ρ) h1 (h2.trans hb) hk
  | dptr h hi => simp only [PV.ren]; exact .dptr (h.mono hd (fun _ _ _ => rfl)) hi
  | bptr h hi => simp only [PV.ren]; exact .bptr (h.mono hb' (fun _ _ _ => rfl)) hi
  | glob g => simp only [PV.ren]; exact .glob g
  | val hf => simp only [PV.ren]; exact .val hf
  | @slc r lo n cap b x hx hb hk hn hc hl hz =>
    simp only [PV.ren]
    obtain ⟨h1, h2⟩ := hrow _ _ hx
    exact .slc (x := x.ren ρ) h1 (h2.trans hb) hk (by rw [Row.ren_len]; exact hn) hc (by rw [Row.ren_len]; exact hl) hz
  | @slc0 r x p hx hb hk hp =>
    simp only [PV.ren]
    obtain ⟨h1, h2⟩ := hrow _ _ hx
    exact .slc0 (x := x.ren ρ) h1 (h2.trans hb) hk hp
  | @mp r b x hx hb hk =>
    simp only [PV.ren]
    obtain ⟨h1, h2⟩ := hrow _ _ hx
    exact .mp (x := x.ren ρ) h1 (h2.trans hb) hk
  | func hs _ ih =>
    simp only [PV.ren]
    exact .func (by rw [renL_length]; exact hs) fun i hi => by rw [renL_get _ _ i (by rw [renL_length] at hi; exact hi) hi]; exact ih i (by rw [renL_length] at hi; exact hi)
  | agg hs _ hf ih =>
    simp only [PV.ren]
    exact .agg (by rw [renL_length]; exact hs) (fun i hi => by rw [renL_get _ _ i (by rw [renL_length] at hi; exact hi) hi]; exact ih i (by rw [renL_length] at hi; exact hi)) fun i hi => hf i (by rw [renL_length] at hi; exact hi)
  | tuple hs _ ih =>
    simp only [PV.ren]
    exact .tuple (by rw [renL_length]; exact hs) fun i hi => by rw [renL_get _ _ i (by rw [renL_length] at hi; exact hi) hi]; exact ih i (by rw [renL_length] at hi; exact hi)
structure Renames (σ τ : St) (ρ : Nat → Nat) : Prop where
  env : ∀ t, eget τ.env t = (eget σ.env t).ren ρ
  row : ∀ r x, hget σ.heap r = some x → hget τ.heap (ρ r) = some (x.ren ρ)
  all : ∀ s y, hget τ.heap s = some y → ∃ r x, hget σ.heap r = some x ∧ s = ρ r
  inj : ∀ r s x y, hget σ.heap r = some x → hget σ.heap s = some y → ρ r = ρ s → r = s
  pin : ∀ r x, hget σ.heap r = some x → r < 1000 → ρ r = r
  big : ∀ r x, hget σ.heap r = some x → 1000 ≤ r → 1000 ≤ ρ r
  dfr : τ.dfr = σ.dfr.map (PV.ren ρ)
  gh : σ.gh = τ.gh
open Classical in
noncomputable def renNm (φ : Nm) (H : Heap) (ρ : Nat → Nat) : Nm := ⟨fun s => if h : ∃ r, (hget H r).isSome = true ∧ ρ r = s then φ (Classical.choose h) else none, φ.T⟩
open Classical in
theorem renNm_at (hi : ∀ r s x y, hget H r = some x → hget H s = some y → ρ r = ρ s → r = s) {r : Nat} {x : Row} (h : hget H r = some x) : (renNm φ H ρ) (ρ r) = φ r := by
  have hex : ∃ r', (hget H r').isSome = true ∧ ρ r' = ρ r := ⟨r, by rw [h]; rfl, rfl⟩
  show (if h : ∃ r', (hget H r').isSome = true ∧ ρ r' = ρ r then φ (Classical.choose h) else none) = _
  rw [dif_pos hex]
  obtain ⟨h1, h2⟩ := Classical.choose_spec hex
  obtain ⟨y, hy⟩ := Option.isSome_iff_exists.1 h1
  rw [hi _ _ _ _ hy h h2]
theorem Sub.ren (h : Renames σ τ ρ) : Sub G N σ τ := by
  intro P B a w φ hr
  have hat : ∀ r x, hget σ.heap r = some x → (renNm φ σ.heap ρ) (ρ r) = φ r := fun r x hx => renNm_at h.inj hx
  have hrow : ∀ b, rowB (renNm φ σ.heap ρ) τ.heap b ↔ rowB φ σ.heap b := fun b => by
    constructor
    · rintro ⟨s, y, h1, h2⟩
      obtain ⟨r, x, h3, rfl⟩ := h.all s y h1
      exact ⟨r, x, h3, (hat r x h3).symm.trans h2⟩
    · rintro ⟨r, x, h1, h2⟩
      exact ⟨ρ r, _, h.row r x h1, (hat r x h1).trans h2⟩
  have hown : ∀ b, own (renNm φ σ.heap ρ) τ.heap b ↔ own φ σ.heap b := fun b => or_congr (hrow b) Iff.rfl
  have hv : ∀ {v p}, RepV w B.X φ σ.heap v p → RepV w B.X (renNm φ σ.heap ρ) τ.heap v (p.ren ρ) := fun {v p} hv => hv.renamed (fun r x hx => ⟨h.row r x hx, hat r x hx⟩) hown
  have hd : ∀ b kk, okd w B.X φ σ.heap b kk → okd w B.X (renNm φ σ.heap ρ) τ.heap b kk := fun b kk hb => ⟨hb.1, hb.2.1, fun ho => hb.2.2 ((hown b).1 ho)⟩
  refine ⟨renNm φ σ.heap ρ, Rep.of_sit ⟨⟨fun s y b hs hb => ?_, fun s y hs hb => ?_, fun s t y z b hs ht hb hb' => ?_, fun b hT => ⟨(hr.heap.far b hT).1, (hr.heap.far b hT).2.1, fun ho => (hr.heap.far b hT).2.2 ((hrow b).1 ho)⟩⟩, hr.keeps, fun s y b hs hb => ?_, fun s y hs hp => ?_, fun s y b hs hp hb => ?_, ?_, hr.tnew, ?_⟩ hr.size (fun t => ?_) ?_⟩
  · obtain ⟨r, x, h1, rfl⟩ := h.all s y hs
    have h2 := h.row r x h1
    rw [hs] at h2; cases h2
    rw [hat r x h1] at hb
    refine (hr.heap.rows r x b h1 hb).turn rfl rfl (Row.ren_len x) (fun _ _ h => h) (hr.heap.rows r x b h1 hb).free (fun i hi hi' v hv' => ?_) fun z hz => by simp only [Row.ren, renL_map]; exact hz.map fun p hp => ren_byte ρ hp
    simp only [Row.ren]
    rw [renL_get _ _ i hi (by simpa [Row.ren] using hi')]
    exact hv hv'
  · obtain ⟨r, x, h1, rfl⟩ := h.all s y hs
    have h2 := h.row r x h1
    rw [hs] at h2; cases h2
    rw [hat r x h1] at hb
    have := hr.heap.void r x h1 hb
    simp [Row.ren, this, renL]
  · obtain ⟨r, x, h1, rfl⟩ := h.all s y hs
    obtain ⟨r', x', h1', rfl⟩ := h.all t z ht
    rw [hat r x h1] at hb
    rw [hat r' x' h1'] at hb'
    rw [hr.heap.inj r r' x x' b h1 h1' hb hb']
  · obtain ⟨r, x, h1, rfl⟩ := h.all s y hs
    rw [hat r x h1] at hb
    exact hr.new r x b h1 hb
  · obtain ⟨r, x, h1, rfl⟩ := h.all s y hs
    rcases Nat.lt_or_ge r 1000 with hl | hl
    · rw [hat r x h1, h.pin r x h1 hl]
      exact hr.pins r x h1 (by simp [pinned, hl])
    · have := h.big r x h1 hl
      simp [pinned] at hp; omega
  · obtain ⟨r, x, h1, rfl⟩ := h.all s y hs
    rcases Nat.lt_or_ge r 1000 with hl | hl
    · rw [hat r x h1] at hb
      exact hr.psz r x b h1 (by simp [pinned, hl]) hb
    · have := h.big r x h1 hl
      simp [pinned] at hp; omega
  · intro g y hm
    obtain ⟨c, e, f, v, h1, h2, h3, h4, h5, h6⟩ := hr.glob g y hm
    exact ⟨c, e, f, v, h1, fun ho => h2 ((hown g).1 ho), h3.mono hd (fun _ _ _ => rfl), h4, h5, h6⟩
  · rw [← h.gh]
    exact J_step (w := w) (φ := φ) (H := σ.heap) hr.inv rfl rfl rfl rfl (Nat.le_refl _) (fun _ _ _ => rfl) (fun b hb => .inl ((hrow b).1 hb))
  · rw [h.env t]; exact hv (hr.env t)
  · rw [h.dfr, ← h.gh]
    exact hr.dfr.map (fun D hD => ⟨hd D 0 hD, rfl⟩) fun p _ v hv' => hv hv'
end
theorem ren_dl (ρ : Nat → Nat) (l : List PD) : renL ρ (l.map PV.d) = l.map PV.d := by
  rw [renL_map, List.map_map]; rfl
theorem NestG.ren {α : Type} {g : α → Row} [NestG g] (ρ : Nat → Nat) (x : α) : (g x).ren ρ = g x := by
  obtain ⟨_, l, h⟩ := NestG.data (g := g) x
  simp only [Row.ren, h, ren_dl]
  cases hg : g x
  rw [hg] at h; simp only at h; subst h; rfl
section
variable {G : List (Nat × PD)} {N : Nat} {σ : St}
end
class NestP {α : Type} (F : Nat → α → PV) (g : α → Row) (pd : α → PD) : Prop where
  frz : ∀ H r x, hget H r = some (g x) → frz H (F r x) = some (pd x)
section
variable {G : List (Nat × PD)} {N : Nat} {σ : St}
end
theorem nelF_clean {α : Type} {c : Nat} {F : Nat → α → PV} [NestF F] {L : List α} : cleanL (nelF c F L) := by
  have : ∀ l : List PV, (∀ (i : Nat) (p : PV), l[i]? = some p → clean p) → cleanL l := fun l => by
    induction l with
    | nil => exact fun _ => trivial
    | cons p l ih => exact fun h => ⟨h 0 p rfl, ih fun i q hq => h (i + 1) q (by simpa using hq)⟩
  refine this _ fun i p hp => ?_
  rw [nelF_get, Option.map_eq_some_iff] at hp
  obtain ⟨x, _, rfl⟩ := hp
  exact NestF.clean _ _
section
variable {P : Program} {G : List (Nat × PD)} {ro : Option Nat} {N : Nat} {ops : Array Oper} {σ σ' : St} {o : Oper} {rest : List Oper}
end
end Go.Pv

namespace Go.Pv
section
variable {P : Program} {G : List (Nat × PD)} {ro : Option Nat} {N : Nat} {ops : Array Oper} {σ σ' : St} {o : Oper} {rest : List Oper}
@[go_sem] theorem nelF_cleanT {α : Type} {c : Nat} {F : Nat → α → PV} [NestF F] {L : List α} : cleanL (nelF c F L) = True := eq_true nelF_clean
mutual
theorem PV.ren_id : ∀ p : PV, p.ren id = p
  | .func fn l => by simp only [PV.ren, renL_id l]
  | .agg l => by simp only [PV.ren, renL_id l]
  | .tuple l => by simp only [PV.ren, renL_id l]
  | .ptr .. => by simp only [PV.ren, id]
  | .slc .. => by simp only [PV.ren, id]
  | .mp .. => by simp only [PV.ren, id]
  | .any | .d _ | .b _ | .dptr .. | .bptr .. | .glob _ | .val _ => by simp only [PV.ren]
theorem renL_id : ∀ l : List PV, renL id l = l
  | [] => by simp only [renL]
  | p :: l => by simp only [renL, PV.ren_id p, renL_id l]
end
theorem Row.ren_id (x : Row) : x.ren id = x := by simp only [Row.ren, renL_id]
theorem Sub.same {H : Heap} (h : ∀ r, hget H r = hget σ.heap r) : Sub G N σ ⟨σ.env, H, σ.dfr, σ.gh⟩ :=
  Sub.ren (ρ := id) ⟨fun t => (PV.ren_id _).symm, fun r x hx => by rw [Row.ren_id]; exact (h r).trans hx, fun s y hy => ⟨s, y, (h s).symm.trans hy, rfl⟩, fun r s _ _ _ _ e => e, fun _ _ _ _ => rfl, fun _ _ _ hr => hr, by
    show σ.dfr = σ.dfr.map (PV.ren id)
    rw [← renL_map, renL_id], rfl⟩
end
end Go.Pv

namespace Go.Pv
mutual
def noRef : PD → Bool
  | .imm _ [] => true
  | .imm _ (_ :: _) => false
  | .agg l => noRefL l
  | .iface _ v => noRef v
  | _ => true
def noRefL : List PD → Bool
  | [] => true
  | x :: l => noRef x && noRefL l
end
theorem noRefL_get : ∀ {l : List PD}, noRefL l = true → ∀ i (hi : i < l.length), noRef l[i] = true
  | [], _, i, hi => by simp at hi
  | x :: l, h, 0, _ => by simp only [noRefL, Bool.and_eq_true] at h; exact h.1
  | x :: l, h, i + 1, hi => by simp only [noRefL, Bool.and_eq_true] at h; simpa using noRefL_get h.2 i (by simpa using hi)
theorem RepD.noRef {w w' : World} {ok ok' : Nat → Nat → Prop} {v : Value} {p : PD} (h : RepD w ok v p) : noRef p = true → RepD w' ok' v p := by
  induction h with
  | bool b => intro _; exact .bool b
  | int k n => intro _; exact .int k n
  | str s => intro _; exact .str s
  | nilptr => intro _; exact .nilptr
  | nilslice => intro _; exact .nilslice
  | nilmap => intro _; exact .nilmap
  | nilfunc => intro _; exact .nilfunc
  | niliface => intro _; exact .niliface
  | fn f => intro _; exact .fn f
  | iface t _ ih => intro h; simp only [Pv.noRef] at h; exact .iface t (ih h)
  | agg hs _ hf ih => intro h; simp only [Pv.noRef] at h; exact .agg hs (fun i hi => ih i hi (noRefL_get h i hi)) hf
  | imm0 k => intro _; exact .imm0 k
  | @imm a n cap k els F ha hb hn hcap _ hk hf hc hz ih =>
    intro h
    cases els with
    | cons x l => simp [Pv.noRef] at h
    | nil => exact .imm F (fun h => absurd rfl h) (fun h => absurd rfl h) hn hcap (fun i hi => by simp at hi) (fun i hi => by simp at hi) (fun i hi => by simp at hi) (fun i hi => by simp at hi) (fun i hi => by simp at hi)
mutual
def shp : PD → PD → Prop
  | .int k _, y => ∃ n, y = .int k n
  | .imm k els, y => ∃ m, y = .imm k m ∧ shpL els m
  | .agg els, y => ∃ m, y = .agg m ∧ shpL els m
  | .iface t v, y => ∃ u, y = .iface t u ∧ shp v u
  | x, y => y = x
def shpL : List PD → List PD → Prop
  | [], m => m = []
  | x :: l, m => ∃ y t, m = y :: t ∧ shp x y ∧ shpL l t
end
theorem shpL_of : ∀ {l m : List PD}, l.length = m.length → (∀ i (hi : i < l.length) (hi' : i < m.length), shp l[i] m[i]) → shpL l m
  | [], [], _, _ => by simp only [shpL]
  | x :: l, y :: m, h1, h2 => by
    simp only [shpL]
    exact ⟨y, m, rfl, h2 0 (by simp) (by simp), shpL_of (by simpa using h1) fun i hi hi' => h2 (i + 1) (Nat.succ_lt_succ hi) (Nat.succ_lt_succ hi')⟩
  | [], _ :: _, h, _ => by simp at h
  | _ :: _, [], h, _ => by simp at h
mutual
theorem shp_refl : ∀ x : PD, shp x x
  | .int k n => by simp only [shp]; exact ⟨n, rfl⟩
  | .imm k els => by simp only [shp]; exact ⟨els, rfl, shpL_refl els⟩
  | .agg els => by simp only [shp]; exact ⟨els, rfl, shpL_refl els⟩
  | .iface t v => by simp only [shp]; exact ⟨v, rfl, shp_refl v⟩
  | .bool _ | .str _ | .nilptr | .nilslice | .nilmap | .nilfunc | .niliface | .fn _ => by simp only [shp]
theorem shpL_refl : ∀ l : List PD, shpL l l
  | [] => by simp only [shpL]
  | x :: l => by simp only [shpL]; exact ⟨x, l, rfl, shp_refl x, shpL_refl l⟩
end
mutual
theorem shp_trans : ∀ {x y z : PD}, shp x y → shp y z → shp x z
  | .int k n, y, z, h, h' => by
    simp only [shp] at h; obtain ⟨m, rfl⟩ := h; simp only [shp] at h'; obtain ⟨m', rfl⟩ := h'; simp only [shp]; exact ⟨m', rfl⟩
  | .imm k els, y, z, h, h' => by
    simp only [shp] at h; obtain ⟨m, rfl, h1⟩ := h; simp only [shp] at h'; obtain ⟨m', rfl, h2⟩ := h'; simp only [shp]; exact ⟨m', rfl, shpL_trans h1 h2⟩
  | .agg els, y, z, h, h' => by
    simp only [shp] at h; obtain ⟨m, rfl, h1⟩ := h; simp only [shp] at h'; obtain ⟨m', rfl, h2⟩ := h'; simp only [shp]; exact ⟨m', rfl, shpL_trans h1 h2⟩
  | .iface t v, y, z, h, h' => by
    simp only [shp] at h; obtain ⟨m, rfl, h1⟩ := h; simp only [shp] at h'; obtain ⟨m', rfl, h2⟩ := h'; simp only [shp]; exact ⟨m', rfl, shp_trans h1 h2⟩
  | .bool _, y, z, h, h' => by simp only [shp] at h; subst h; exact h'
  | .str _, y, z, h, h' => by simp only [shp] at h; subst h; exact h'
  | .nilptr, y, z, h, h' => by simp only [shp] at h; subst h; exact h'
  | .nilslice, y, z, h, h' => by simp only [shp] at h; subst h; exact h'
  | .nilmap, y, z, h, h' => by simp only [shp] at h; subst h; exact h'
  | .nilfunc, y, z, h, h' => by simp only [shp] at h; subst h; exact h'
  | .niliface, y, z, h, h' => by simp only [shp] at h; subst h; exact h'
  | .fn _, y, z, h, h' => by simp only [shp] at h; subst h; exact h'
theorem shpL_trans : ∀ {x y z : List PD}, shpL x y → shpL y z → shpL x z
  | [], y, z, h, h' => by simp only [shpL] at h; subst h; exact h'
  | x :: l, y, z, h, h' => by
    simp only [shpL] at h; obtain ⟨y1, t, rfl, h1, h2⟩ := h
    simp only [shpL] at h'; obtain ⟨z1, t', rfl, h3, h4⟩ := h'
    simp only [shpL]; exact ⟨z1, t', rfl, shp_trans h1 h3, shpL_trans h2 h4⟩
end
def setCellV (v : Value) (j : Nat) (u : Value) : Value :=
  match v with
  | .agg vs => .agg (vs.setIfInBounds j u)
  | _ => u
theorem setCellV_get {v : Value} {j : Nat} {u : Value} (hj : j < v.cells.size) (hu : flat u = true) : (setCellV v j u).cells.size = v.cells.size ∧ ∀ i, i < v.cells.size → (setCellV v j u).cells.getD i undef = if i = j then u else v.cells.getD i undef := by
  by_cases ha : ∃ vs, v = .agg vs
  · obtain ⟨vs, rfl⟩ := ha
    simp only [setCellV, Value.cells] at hj ⊢
    refine ⟨by simp, fun i hi => ?_⟩
    by_cases h : i = j
    · subst h; simp [Array.getD, hi]
    · rw [if_neg h]; simp [Array.getD, hi, Array.getElem_setIfInBounds, Ne.symm h]
  · have hv : v.cells.size = 1 ∧ setCellV v j u = u := by
      cases v <;> first | exact absurd ⟨_, rfl⟩ ha | exact ⟨rfl, rfl⟩
    have hj0 : j = 0 := by omega
    subst hj0
    rw [hv.2, flat_cells hu, hv.1]
    refine ⟨rfl, fun i hi => ?_⟩
    have : i = 0 := by omega
    subst this; rfl
theorem RepD.int_of {w : World} {ok : Nat → Nat → Prop} {k : IntKind} {n : Int} {p : PD} (h : RepD w ok (.int k n) p) : p = .int k n := by cases h; rfl
theorem RepD.setCellV {w : World} {ok : Nat → Nat → Prop} {v : Value} {p : PD} {j : Nat} {k : IntKind} {n m : Int} (h : RepD w ok v p) (hj : j < v.cells.size) (hc : v.cells.getD j undef = .int k n) : ∃ q, shp p q ∧ RepD w ok (Pv.setCellV v j (.int k m)) q := by
  by_cases ha : ∃ vs, v = .agg vs
  · obtain ⟨vs, rfl⟩ := ha
    simp only [Value.cells] at hj hc
    cases h with
    | @agg _ ps hs hr hf =>
      have hjl : j < ps.length := hs ▸ hj
      have h1 := hr j hjl
      rw [hc] at h1
      have h2 := h1.int_of
      refine ⟨.agg (ps.set j (.int k m)), ?_, ?_⟩
      · simp only [shp]
        refine ⟨_, rfl, shpL_of (by simp) fun i hi hi' => ?_⟩
        by_cases h : i = j
        · subst h; rw [h2]; simp only [List.getElem_set_self, shp]; exact ⟨_, rfl⟩
        · rw [List.getElem_set_ne (Ne.symm h)]; exact shp_refl _
      · simp only [Pv.setCellV]
        have hg : ∀ i, i < ps.length → (vs.setIfInBounds j (.int k m)).getD i undef = if i = j then .int k m else vs.getD i undef := fun i hi => by
          have hi' : i < vs.size := hs ▸ hi
          by_cases h : i = j
          · subst h; simp [Array.getD, hi']
          · rw [if_neg h]; simp [Array.getD, hi', Array.getElem_setIfInBounds, Ne.symm h]
        refine .agg (by simp [hs]) (fun i hi => ?_) (fun i hi => ?_)
        · have hi' : i < ps.length := by simpa using hi
          rw [hg i hi']
          by_cases h : i = j
          · subst h; rw [if_pos rfl]; simp only [List.getElem_set_self]; exact .int k m
          · rw [if_neg h, List.getElem_set_ne (Ne.symm h)]; exact hr i hi'
        · have hi' : i < ps.length := by simpa using hi
          rw [hg i hi']
          split
          · rfl
          · exact hf i hi'
  · have hv : v = .int k n := by
      cases v <;> first | exact absurd ⟨_, rfl⟩ ha | (simp only [Value.cells] at hj hc; have : j = 0 := by (simpa using hj)
                                                      subst this; exact hc)
    subst hv
    have := h.int_of
    subst this
    exact ⟨.int k m, by simp only [shp]; exact ⟨_, rfl⟩, .int k m⟩
structure Poked (w w' : World) (b p : Nat) (k : IntKind) (n m : Int) : Prop where
  was : w.cell? ⟨b, p, none⟩ = some (.int k n)
  cell : ∀ c o, w'.cell? ⟨c, o, none⟩ = if c = b ∧ o = p then some (.int k m) else w.cell? ⟨c, o, none⟩
  froz : ∀ a, w'.frozen? a = w.frozen? a
theorem RepD.poke {w w' : World} {b p : Nat} {k : IntKind} {n m : Int} (hp : Poked w w' b p k n m) {ok : Nat → Nat → Prop} {v : Value} {x : PD} (h : RepD w ok v x) : ∃ y, shp x y ∧ RepD w' ok v y := by
  induction h with
  | bool b => exact ⟨_, shp_refl _, .bool b⟩
  | int k n => exact ⟨_, shp_refl _, .int k n⟩
  | str s => exact ⟨_, shp_refl _, .str s⟩
  | nilptr => exact ⟨_, shp_refl _, .nilptr⟩
  | nilslice => exact ⟨_, shp_refl _, .nilslice⟩
  | nilmap => exact ⟨_, shp_refl _, .nilmap⟩
  | nilfunc => exact ⟨_, shp_refl _, .nilfunc⟩
  | niliface => exact ⟨_, shp_refl _, .niliface⟩
  | fn f => exact ⟨_, shp_refl _, .fn f⟩
  | iface t _ ih => obtain ⟨y, h1, h2⟩ := ih; exact ⟨.iface t y, by simp only [shp]; exact ⟨y, rfl, h1⟩, .iface t h2⟩
  | @agg vs ps hs _ hf ih =>
    classical
    let Y : Nat → PD := fun i => if h : i < ps.length then Classical.choose (ih i h) else default
    have hY : ∀ i (hi : i < ps.length), shp ps[i] (Y i) ∧ RepD w' ok (vs.getD i undef) (Y i) := fun i hi => by
      have := Classical.choose_spec (ih i hi)
      simpa only [Y, dif_pos hi] using this
    refine ⟨.agg ((List.range ps.length).map Y), ?_, .agg (by simp [hs]) (fun i hi => ?_) (fun i hi => hf i (by simpa using hi))⟩
    · simp only [shp]
      exact ⟨_, rfl, shpL_of (by simp) fun i hi hi' => by simpa using (hY i hi).1⟩
    · simpa using (hY i (by simpa using hi)).2
  | imm0 k => exact ⟨_, shp_refl _, .imm0 k⟩
  | @imm a l cap kk els F ha hb hn hcap _ hk hf hc hz ih =>
    classical
    -- the value of an element, with the cell that was written to
    let hit : Nat → Nat → Prop := fun i j => a.block = b ∧ a.off + i * kk + j = p ∧ j < kk
    let G : Nat → Value := fun i => if h : ∃ j, hit i j then Pv.setCellV (F i) (Classical.choose h) (.int k m) else F i
    have hG : ∀ i (hi : i < els.length), (∃ y, shp els[i] y ∧ RepD w' ok (G i) y) ∧ (G i).cells.size = kk ∧ ∀ j, j < kk → (G i).cells.getD j undef = if a.block = b ∧ a.off + i * kk + j = p then .int k m else (F i).cells.getD j undef := fun i hi => by
      obtain ⟨y, h1, h2⟩ := ih i hi
      by_cases h : ∃ j, hit i j
      · obtain ⟨g1, g2, g3⟩ := Classical.choose_spec h
        have e : G i = Pv.setCellV (F i) (Classical.choose h) (.int k m) := dif_pos h
        rw [e]
        generalize Classical.choose h = j at g1 g2 g3
        have hcj := hc i hi j g3
        rw [g1, g2, hp.was] at hcj
        have hcj : (F i).cells.getD j undef = .int k n := by simpa using hcj.symm
        have hjs : j < (F i).cells.size := by rw [hk i hi]; exact g3
        obtain ⟨q, q1, q2⟩ := h2.setCellV (m := m) hjs hcj
        obtain ⟨s1, s2⟩ := setCellV_get (u := .int k m) hjs rfl
        refine ⟨⟨q, shp_trans h1 q1, q2⟩, s1.trans (hk i hi), fun j' hj' => ?_⟩
        rw [s2 j' (by rw [hk i hi]; exact hj')]
        by_cases hjj : j' = j
        · subst hjj; rw [if_pos rfl, if_pos ⟨g1, g2⟩]
        · rw [if_neg hjj, if_neg (fun h => hjj (by omega))]
      · have e : G i = F i := dif_neg h
        rw [e]
        refine ⟨⟨y, h1, h2⟩, hk i hi, fun j hj => ?_⟩
        rw [if_neg (fun h' => h ⟨j, h'.1, h'.2, hj⟩)]
    let Y : Nat → PD := fun i => if h : i < els.length then Classical.choose (hG i h).1 else default
    have hY : ∀ i (hi : i < els.length), shp els[i] (Y i) ∧ RepD w' ok (G i) (Y i) := fun i hi => by
      have := Classical.choose_spec (hG i hi).1
      simpa only [Y, dif_pos hi] using this
    have hlen : ((List.range els.length).map Y).length = els.length := by simp
    have hne : (List.range els.length).map Y ≠ [] → els ≠ [] := fun h e => by subst e; simp at h
    refine ⟨.imm kk ((List.range els.length).map Y), ?_, .imm G (fun h => ha (hne h)) (fun h => hb (hne h)) (by rw [hlen]; exact hn) hcap (fun i hi => ?_) (fun i hi => (hG i (hlen ▸ hi)).2.1) (fun i hi j hj => ?_) (fun i hi j hj => ?_) (fun i hi j hj hu => ?_)⟩
    · simp only [shp]
      exact ⟨_, rfl, shpL_of (by simp) fun i hi hi' => by simpa using (hY i hi).1⟩
    · simpa using (hY i (hlen ▸ hi)).2
    · rw [(hG i (hlen ▸ hi)).2.2 j hj]
      split
      · rfl
      · exact hf i (hlen ▸ hi) j hj
    · rw [(hG i (hlen ▸ hi)).2.2 j hj, hp.cell]
      split
      · rfl
      · exact hc i (hlen ▸ hi) j hj
    · rw [hp.froz]
      refine hz i (hlen ▸ hi) j hj ?_
      rw [(hG i (hlen ▸ hi)).2.2 j hj] at hu
      split at hu
      · rename_i hh
        have := hc i (hlen ▸ hi) j hj
        rw [hh.1, hh.2, hp.was] at this
        have : (F i).cells.getD j undef = .int k n := by simpa using this.symm
        rw [this]
        cases k <;> simp_all [isU8]
      · exact hu
end Go.Pv

namespace Go.Pv
mutual
def sizD (f : Nat → Bool) : PD → Bool
  | .imm _ [] => true
  | .imm k (x :: l) => f k && sizD f x && sizL f l
  | .agg l => sizL f l
  | .iface _ v => sizD f v
  | _ => true
def sizL (f : Nat → Bool) : List PD → Bool
  | [] => true
  | x :: l => sizD f x && sizL f l
end
theorem sizL_get {f : Nat → Bool} : ∀ {l : List PD}, sizL f l = true → ∀ i (hi : i < l.length), sizD f l[i] = true
  | [], _, i, hi => by simp at hi
  | x :: l, h, 0, _ => by simp only [sizL, Bool.and_eq_true] at h; exact h.1
  | x :: l, h, i + 1, hi => by simp only [sizL, Bool.and_eq_true] at h; simpa using sizL_get h.2 i (by simpa using hi)
theorem sizL_of {g : Nat → Bool} {α : Type} {f : α → PD} (h : ∀ a, sizD g (f a) = true) : ∀ l : List α, sizL g (lenc f l) = true
  | [] => rfl
  | a :: l => by
    have := sizL_of h l
    simp only [lenc, List.map_cons, sizL, Bool.and_eq_true] at this ⊢
    exact ⟨h a, this⟩
theorem siz_imm {g : Nat → Bool} {α : Type} {f : α → PD} {k : Nat} (hk : g k = true) (h : ∀ a, sizD g (f a) = true) (l : List α) : sizD g (.imm k (lenc f l)) = true := by
  cases l with
  | nil => rfl
  | cons a l =>
    have := sizL_of h l
    simp only [lenc] at this
    simp only [lenc, List.map_cons, sizD, Bool.and_eq_true, hk, h a, this, and_self]
theorem RepD.siz {w : World} {ok : Nat → Nat → Prop} {f : Nat → Bool} {v : Value} {x : PD} (h : RepD w ok v x) : sizD f x = true → RepD w (fun b k => ok b k ∧ f k = true) v x := by
  induction h with
  | bool b => intro _; exact .bool b
  | int k n => intro _; exact .int k n
  | str s => intro _; exact .str s
  | nilptr => intro _; exact .nilptr
  | nilslice => intro _; exact .nilslice
  | nilmap => intro _; exact .nilmap
  | nilfunc => intro _; exact .nilfunc
  | niliface => intro _; exact .niliface
  | fn f => intro _; exact .fn f
  | iface t _ ih => intro h; simp only [sizD] at h; exact .iface t (ih h)
  | agg hs _ hf ih => intro h; simp only [sizD] at h; exact .agg hs (fun i hi => ih i hi (sizL_get h i hi)) hf
  | imm0 k => intro _; exact .imm0 k
  | @imm a n cap k els F ha hb hn hcap hr hk hf hc hz ih =>
    intro h
    cases els with
    | nil => exact .imm F (fun h => absurd rfl h) (fun h => absurd rfl h) hn hcap (fun i hi => by simp at hi) (fun i hi => by simp at hi) (fun i hi => by simp at hi) (fun i hi => by simp at hi) (fun i hi => by simp at hi)
    | cons x l =>
      simp only [sizD, Bool.and_eq_true] at h
      obtain ⟨⟨h1, h2⟩, h3⟩ := h
      have hall : sizL f (x :: l) = true := by simp only [sizL, Bool.and_eq_true]; exact ⟨h2, h3⟩
      exact .imm F ha (fun hne => ⟨hb hne, h1⟩) hn hcap (fun i hi => ih i hi (sizL_get hall i hi)) hk hf hc hz
def noRefG (G : List (Nat × PD)) : Prop := ∀ g x, (g, x) ∈ G → noRef x = true
def isLst : PD → Bool
  | .nilslice => true
  | .imm _ _ => true
  | _ => false
theorem isLst_lst (k : Nat) (l : List PD) : isLst (lstD k l) = true := by cases l <;> rfl
theorem hdr_of {w : World} {ok : Nat → Nat → Prop} {v : Value} {x : PD} (h : RepD w ok v x) (hx : isLst x = true) : ∃ l, hdr l = v := by
  cases h with
  | nilslice => exact ⟨[], rfl⟩
  | imm0 => exact ⟨[], rfl⟩
  | @imm a n cap k els F ha hb hn hcap _ hk hf hc =>
    obtain ⟨b, o, s⟩ := a
    cases s with
    | none => exact ⟨[.int .i64 b, .int .i64 o, .int .i64 n, .int .i64 cap, .int .i64 0], by simp [hdr]⟩
    | some s => exact ⟨[.int .i64 b, .int .i64 o, .int .i64 n, .int .i64 cap, .int .i64 (s + 1)], by simp [hdr]; omega⟩
  | _ => simp [isLst] at hx
theorem flat_hdr (l : List PD) : flat (hdr l) = true := by
  unfold hdr; split <;> rfl
section
variable {P : Program} {G : List (Nat × PD)} {ro : Option Nat} {N : Nat} {σ : St} {B : Base P} {a : Act} {w : World} {φ : Nm}
theorem Rep.part (hr : Rep G B N σ a w φ) {l : Nat} {m : PD} {ys : List PD} {c : Bool} (hg : σ.gh = some (l, [], m :: ys, c)) : B.fr = true ∧ J0 ys (B.mine φ σ.heap) φ.T w := by
  have h := hr.inv
  rw [hg] at h
  rcases h with h | ⟨h1, _, m', ys', h2, h3⟩
  · have := h.2.1 rfl; cases this
  · simp only [List.cons.injEq] at h2; obtain ⟨rfl, rfl⟩ := h2; exact ⟨h1, h3⟩
theorem OpT.callCore {o : Oper} {c : Call} {f : FuncId} {args : List PV} {res : PV} {K : St → Prop} (ho : o.op = .call c) (hc : c.callee = .value (.func f)) (hcal : callable P f = true)
    (hf : PureFn P G f args res) (hlen : c.args.toList.length = args.length)
    (ha : ∀ (B : Base P) a w φ, Rep G B N σ a w φ → ∀ i (hi : i < args.length), RepV w (fun b kk => B.X b kk ∨ own φ σ.heap b) Nm.no [] ((c.args.toList.map a.eval).getD i undef) args[i])
    (hd : dstOk N o.dst) (hK : K (σ.put o.dst res)) (hres : dOnly res) : OpT P G ro N o σ K := by
  intro B hro a w φ hr next Q hn
  have hlt : ∀ b, own φ σ.heap b → b < w.heap.size := fun _ => hr.heap.own_lt
  have hsit : Sit G (B.callee w φ σ.heap hr.keeps.size hlt) w Nm.no [] none := by
    refine ⟨⟨fun r x b h => by simp [hget] at h, fun r x h => by simp [hget] at h, fun r s x y b h => by simp [hget] at h, fun b h => h.elim⟩, .refl _ _, fun r x b h => by simp [hget] at h, fun r x h => by simp [hget] at h, fun r x b h => by simp [hget] at h, fun g x hm => ?_, fun b h => h.elim, fun b h => h⟩
    obtain ⟨cs, e, f, v, h5, h6, h7, h8, h9⟩ := hr.glob g x hm
    refine ⟨cs, e, f, v, h5, no_own g, h7.mono (fun b k hb => ⟨hb.1, fun h => h.elim hb.2.1 hb.2.2, no_own b⟩) (fun _ _ _ => rfl), h8, h9.1, fun h => h.elim h9.2 h6⟩
  have hcall := hf (B.callee w φ σ.heap hr.keeps.size hlt) Nm.no (c.args.toList.map a.eval) rfl (by simpa using hlen) (fun i hi => ha B a w φ hr i hi) hsit
  have hrun : (o.semAt ro a.eval).run P w = .ok (.enter f (c.args.toList.map a.eval).toArray) w := by
    rw [Oper.semAt_eq _ _ _ (fun c hc => by rw [ho] at hc; cases hc)]
    have e1 : (c.args.toList.map a.eval).toArray = c.args.map a.eval := by rw [← Array.toList_map]
    have e2 : (#[] ++ c.args.map a.eval ++ #[] : Array Value) = c.args.map a.eval := by simp
    simp only [execOp, ho, resolve, hc, Act.eval, Deferred.ofValue, Sem.run_bind, Sem.run_pure, Result.andThen_ok, invoke, e1, e2]
    exact run_callFunc hcal _ w
  refine ⟨fun _ _ => trivial, ?_⟩
  show o.uponIn (Fw ro) 0 P a next Q ((o.semAt ro a.eval).run P w)
  rw [hrun]
  refine ⟨fun h => (by cases h), ?_⟩
  refine CallsIn.mono (R := fun e w' => ∃ v p H' g' φ', e = .returned v ∧ (p = res ∧ H' = []) ∧ RepV w' (B.callee w φ σ.heap hr.keeps.size hlt).X φ' H' v p ∧ Sit G (B.callee w φ σ.heap hr.keeps.size hlt) w' φ' H' g') hcall ?_
  rintro e w' ⟨v, p, H', g', φ', rfl, ⟨rfl, rfl⟩, h5, h6⟩
  have hrep := hr.after_pure h6
  refine hn _ _ _ φ hK (hrep.put hd ?_)
  have key : ∀ {v : Value} {p : PV}, RepV w' (B.callee w φ σ.heap hr.keeps.size hlt).X φ' [] v p → dOnly p → RepV w' B.X φ σ.heap v p := by
    intro v p hv
    induction hv with
    | any v => intro _; exact .any v
    | val hf => intro _; exact .val hf
    | d h => intro _; exact .d (h.mono (fun b kk hb => ⟨hb.1, fun h => hb.2.1 (.inl h), fun h => hb.2.1 (.inr h)⟩) (fun _ _ _ => rfl))
    | b h => intro h0; simp [dOnly] at h0
    | ptr h1 => simp [hget] at h1
    | mp h1 => simp [hget] at h1
    | dptr h hi => intro _; exact .dptr (h.mono (fun b kk hb => ⟨hb.1, fun h => hb.2.1 (.inl h), fun h => hb.2.1 (.inr h)⟩) (fun _ _ _ => rfl)) hi
    | bptr h hi => intro h0; simp [dOnly] at h0
    | glob g => intro _; exact .glob g
    | slc h1 => simp [hget] at h1
    | slc0 h1 => simp [hget] at h1
    | func hs _ ih => intro h0; simp only [dOnly] at h0; exact .func hs fun i hi => ih i hi (dOnlyL_get h0 i hi)
    | agg hs _ hf ih => intro h0; simp only [dOnly] at h0; exact .agg hs (fun i hi => ih i hi (dOnlyL_get h0 i hi)) hf
    | tuple hs _ ih => intro h0; simp only [dOnly] at h0; exact .tuple hs fun i hi => ih i hi (dOnlyL_get h0 i hi)
  exact key h5 hres
theorem repV_val {X : Nat → Nat → Prop} {H : Heap} {v u : Value} (h : RepV w X φ H v (.val u)) : v = u := by cases h; rfl
def argOkF (σ : St) (p q : PV) : Prop := argOk σ.heap p q ∨ ∃ l m x h c y, σ.gh = some (l, [], m :: x :: h, c) ∧ p = .val (hdr h) ∧ q = .b y ∧ leD x y
def argsOkF (σ : St) : List PV → List PV → Prop
  | [], [] => True
  | p :: l, q :: m => argOkF σ p q ∧ argsOkF σ l m
  | _, _ => False
theorem argsOkF_get {σ : St} : ∀ {l m : List PV}, argsOkF σ l m → l.length = m.length ∧ ∀ i (hi : i < l.length) (hi' : i < m.length), argOkF σ l[i] m[i]
  | [], [], _ => ⟨rfl, fun i hi => by simp at hi⟩
  | p :: l, q :: m, h => by
    obtain ⟨h1, h2⟩ := argsOkF_get h.2
    refine ⟨by simp [h1], fun i hi hi' => ?_⟩
    cases i with
    | zero => exact h.1
    | succ i => simpa using h2 i (by simpa using hi) (by simpa using hi')
  | [], _ :: _, h => h.elim
  | _ :: _, [], h => h.elim
theorem OpT.callF {o : Oper} {c : Call} {f : FuncId} {args : List PV} {res : PV} {K : St → Prop} (ho : o.op = .call c) (hc : c.callee = .value (.func f)) (hcal : callable P f = true)
    (hf : PureFn P G f args res) (ha : argsOkF σ (evalL σ c.args.toList) args) (hd : dstOk N o.dst) (hK : K (σ.put o.dst res)) (hres : dOnly res) : OpT P G ro N o σ K := by
  obtain ⟨h1, h2⟩ := argsOkF_get ha
  have hll : ∀ l : List Operand, (evalL σ l).length = l.length := fun l => by induction l with
    | nil => rfl
    | cons x l ih => simp only [evalL, List.length_cons, ih]
  refine OpT.callCore ho hc hcal hf ((hll _).symm.trans h1) (fun B a w φ hr i hi => ?_) hd hK hres
  obtain ⟨h3, h4⟩ := evalL_ok hr c.args.toList
  have hv := h4 i (h1 ▸ hi)
  rcases h2 i (h1 ▸ hi) hi with h | ⟨l, m, x, h, c', y, hg, hp, hq, hle⟩
  · exact argOk_ok hr hv h
  · rw [hp] at hv
    rw [hq]
    have hj := (hr.part hg).2
    have hd := hj.2 x h rfl
    rw [repV_val hv]
    exact .b ((hd.le hle).mono (fun b kk hb => ⟨(hj.1 b hb).1, no_own b⟩) (fun _ _ _ => rfl))
def bOnly (f : Nat → Bool) : PV → Bool
  | .any => true
  | .b _ => true
  | .d x => sizD f x
  | _ => false
def Base.fresh (P : Program) (f : Nat → Bool) (w : World) : Base P :=
  { w0 := w, X := fun b k => b < w.heap.size ∧ f k = false, hX := fun _ _ h => h.1, o0 := fun _ => False, φ0 := fun _ => none, z0 := csz w, ro := none, held := [], hheld := fun _ => rfl, J := fun _ _ _ _ => True, stab := fun _ _ _ _ _ _ _ _ _ _ _ _ _ => trivial, y := none, yok := fun _ _ h => by cases h }
theorem RepV.rebase {X : Nat → Nat → Prop} {f : Nat → Bool} {v : Value} {q : PV} (h : RepV w X Nm.no [] v q) (hq : bOnly f q = true) : RepV w (Base.fresh P f w).X Nm.no [] v q := by
  cases h with
  | any v => exact .any v
  | b h => exact .b h
  | d h => simp only [bOnly] at hq; exact .d ((h.siz hq).mono (fun b k hb => ⟨hb.1.1, fun h => (by have := h.2; rw [hb.2] at this; cases this), hb.1.2.2⟩) (fun _ _ _ => rfl))
  | _ => simp [bOnly] at hq
theorem OpT.fresh {o : Oper} {c : Call} {f : FuncId} {args : List PV} {x : PD} {zs : List PD} {l0 : Nat} {m : PD} {ys : List PD} {d0 : Bool} {K : St → Prop} (j : Nat) (s : Nat → Bool) (hs0 : s 0 = true) (hG : ∀ g z, (g, z) ∈ G → sizD s z = true) (hgh : σ.gh = some (l0, [], m :: ys, d0))
    (ho : o.op = .call c) (hc : c.callee = .value (.func f)) (hcal : callable P f = true) (hf : PureFn P G f args (.tuple (zs.map .d))) (hj : zs[j]? = some x) (ha : argsOk σ.heap (evalL σ c.args.toList) args) (hb : args.all (bOnly s) = true)
    (hx : isLst x = true) (hav : sizD (fun k => !s k) x = true) (hy : ∀ i, i ≠ j → ∀ z, zs[i]? = some z → noRef z = true) (hd : dstOk N o.dst) (hK : ∀ h, K (({ σ with gh := some (l0, [], m :: x :: h, d0) } : St).put o.dst (.tuple ((zs.map .d).set j (.val (hdr h)))))) : OpT P G ro N o σ K := by
  intro B hro a w φ hr next Q hn
  obtain ⟨h1, h2⟩ := argsOk_get ha
  obtain ⟨h3, h4⟩ := evalL_ok hr c.args.toList
  have hsit : Sit G (Base.fresh P s w) w Nm.no [] none := by
    refine ⟨⟨fun r x b h => by simp [hget] at h, fun r x h => by simp [hget] at h, fun r s x y b h => by simp [hget] at h, fun b h => h.elim⟩, .refl _ _, fun r x b h => by simp [hget] at h, fun r x h => by simp [hget] at h, fun r x b h => by simp [hget] at h, fun g x hm => ?_, fun b h => h.elim, fun b h => h⟩
    obtain ⟨cs, e, f, v, h5, h6, h7, h8, h9⟩ := hr.glob g x hm
    exact ⟨cs, e, f, v, h5, no_own g, (h7.siz (hG g x hm)).mono (fun b k hb => ⟨hb.1.1, fun h => (by have := h.2; rw [hb.2] at this; cases this), no_own b⟩) (fun _ _ _ => rfl), h8, h9.1, fun h => by have := h.2; rw [hs0] at this; cases this⟩
  have hcall := hf (Base.fresh P s w) Nm.no (c.args.toList.map a.eval) rfl (h3.trans h1) (fun i hi => (argOk_ok hr (h4 i (h1 ▸ hi)) (h2 i (h1 ▸ hi) hi)).rebase (List.all_eq_true.1 hb _ (List.getElem_mem hi))) hsit
  have hrun : (o.semAt ro a.eval).run P w = .ok (.enter f (c.args.toList.map a.eval).toArray) w := by
    rw [Oper.semAt_eq _ _ _ (fun c hc => by rw [ho] at hc; cases hc)]
    have e1 : (c.args.toList.map a.eval).toArray = c.args.map a.eval := by rw [← Array.toList_map]
    have e2 : (#[] ++ c.args.map a.eval ++ #[] : Array Value) = c.args.map a.eval := by simp
    simp only [execOp, ho, resolve, hc, Act.eval, Deferred.ofValue, Sem.run_bind, Sem.run_pure, Result.andThen_ok, invoke, e1, e2]
    exact run_callFunc hcal _ w
  refine ⟨fun _ _ => trivial, ?_⟩
  show o.uponIn (Fw ro) 0 P a next Q ((o.semAt ro a.eval).run P w)
  rw [hrun]
  refine ⟨fun h => (by cases h), ?_⟩
  refine CallsIn.mono (R := fun e w' => ∃ v p H' g' φ', e = .returned v ∧ (p = PV.tuple (zs.map .d) ∧ H' = []) ∧ RepV w' (Base.fresh P s w).X φ' H' v p ∧ Sit G (Base.fresh P s w) w' φ' H' g') hcall ?_
  rintro e w' ⟨v, p, H', g', φ', rfl, ⟨rfl, rfl⟩, h5, h6⟩
  have hk := h6.keeps
  have hblk : ∀ b, b < w.heap.size → w'.heap[b]? = w.heap[b]? := fun b h => hk.block b h (fun h => h)
  have hsz : w.heap.size ≤ w'.heap.size := hk.size
  cases h5 with
  | @tuple vs _ hs hr2 =>
    obtain ⟨hjl, hjx⟩ := List.getElem?_eq_some_iff.1 hj
    have hz0 : ∀ i (hi : i < zs.length), RepD w' (okd w' (Base.fresh P s w).X φ' []) (vs.getD i undef) zs[i] := fun i hi => by
      have := hr2 i (by simpa using hi)
      simp only [List.getElem_map] at this
      exact repV_d this
    have hx0 : RepD w' (okd w' (Base.fresh P s w).X φ' []) (vs.getD j undef) x := hjx ▸ hz0 j hjl
    have hx1 : RepD w' (fun b _ => w.heap.size ≤ b ∧ b < w'.heap.size) (vs.getD j undef) x := by
      refine (hx0.siz hav).mono (fun b k hb => ⟨?_, hb.1.1⟩) (fun _ _ _ => rfl)
      by_cases h : w.heap.size ≤ b
      · exact h
      · exact absurd ⟨Nat.lt_of_not_le h, by simpa using hb.2⟩ hb.1.2.1
    obtain ⟨hh, hhv⟩ := hdr_of hx1 hx
    let φ2 : Nm := ⟨φ.f, fun b => φ.T b ∨ (w.heap.size ≤ b ∧ b < w'.heap.size)⟩
    have hrowlt : ∀ b, rowB φ2 σ.heap b → b < w.heap.size := fun b ⟨r, x, g1, g2⟩ => hr.heap.lt g1 g2
    have hown : ∀ b, b < w.heap.size → own φ2 σ.heap b → own φ σ.heap b := fun b hb h => h.elim .inl (fun h => h.elim .inr (fun h => by omega))
    have hrb : ∀ r x b, hget σ.heap r = some x → φ r = some b → w'.heap[b]? = w.heap[b]? := fun r x b g1 g2 => hblk b (hr.heap.lt g1 g2)
    have hext : Ext w B.X φ σ.heap w' φ2 σ.heap := ⟨fun r x h => ⟨x, h, rfl, fun _ => rfl, rfl⟩, fun b kk h => ⟨Nat.lt_of_lt_of_le h.1 hsz, h.2.1, fun ho => h.2.2 (hown b h.1 ho)⟩, fun b kk h => ⟨Nat.lt_of_lt_of_le h.1 hsz, fun ho => h.2 (hown b h.1 ho)⟩,
      fun b kk h => hblk b h.1, fun r x b g1 g2 c e f hh => ⟨c, e, f, (hrb r x b g1 g2) ▸ hh, rfl⟩⟩
    have hfar : ∀ b, φ2.T b → b < w'.heap.size ∧ (∀ kk, ¬ B.X b kk) ∧ ¬ rowB φ2 σ.heap b := fun b hb => by
      rcases hb with hb | hb
      · obtain ⟨g1, g2, g3⟩ := hr.heap.far b hb
        exact ⟨Nat.lt_of_lt_of_le g1 hsz, g2, g3⟩
      · exact ⟨hb.2, fun kk hX => by have := B.hX b _ hX; have := hr.keeps.size; omega, fun h => by have := hrowlt b h; omega⟩
    have hrep : Rep G B N { σ with gh := some (l0, [], m :: x :: hh, d0) } a w' φ2 := by
      refine ⟨hr.size, fun t => (hr.env t).ext hext, ⟨fun r x b g1 g2 => (hr.heap.rows r x b g1 g2).ext hext (hrb r x b g1 g2), hr.heap.void, hr.heap.inj, hfar⟩,
        hr.keeps.trans ⟨hk.os, hk.tape, hk.output, hk.size, fun b hb _ => hblk b hb⟩, hr.new, hr.pins, fun r x b g1 g2 g3 => (csz_of (hrb r x b g1 g3)).trans (hr.psz r x b g1 g2 g3), hr.glob.ext hext (fun n z hm => ?_), fun b hb => ?_, ?_, ?_⟩
      · obtain ⟨c, e, f, v, g1, g2, _⟩ := hr.glob n z hm
        exact fun ho => g2 (hown n (Array.getElem?_eq_some_iff.1 g1).1 ho)
      · rcases hb with hb | hb
        · exact hr.tnew b hb
        · exact .inr (Nat.le_trans hr.keeps.size hb.1)
      · obtain ⟨q1, _⟩ := hr.part hgh
        refine .inr ⟨q1, rfl, m, x :: hh, rfl, fun b hb => ⟨(hfar b hb).1, fun kk hm => hm.elim ((hfar b hb).2.1 kk) (hfar b hb).2.2⟩, fun x' h' e => ?_⟩
        simp only [List.cons.injEq] at e
        obtain ⟨rfl, rfl⟩ := e
        rw [hhv]
        exact hx1.mono (fun b k hb => .inr hb) (fun _ _ _ => rfl)
      · exact (hr.dfr.ext hext).wide fun D hD => absurd hD.1 (by rw [hgh]; simp)
    refine hn _ _ _ φ2 (hK hh) (hrep.put hd (.tuple (by simpa using hs) (fun i hi => ?_)))
    have hi' : i < zs.length := by simpa using hi
    by_cases hij : i = j
    · subst hij
      simp only [List.getElem_set_self]
      rw [← hhv]; exact .val (flat_hdr hh)
    · rw [List.getElem_set_ne (Ne.symm hij)]
      simp only [List.getElem_map]
      exact .d ((hz0 i hi').noRef (hy i hij _ (List.getElem?_eq_getElem hi')))
def Base.part (B : Base P) : Base P := { B with fr := true }
theorem PureFn.introF {f : FuncId} {fn : Func} {c : Code} {args : List PV} {x : PD} (hx : noRef x = true) (hf : P.funcs[f]? = some fn) (hb : fn.body = some c) (hN : args.length ≤ fn.ntmps)
    (h : AWp P G none fn.ntmps c ⟨argEnv 0 args, [], [], some (0, [], [.nilptr], true)⟩ (Fin P G fn fun p H => ∃ u, frzT H p = some u ∧ leV u (.d x))) : PureFn P G f args (.d x) := by
  intro B φ vs h0 h1 h2 h3
  have hT : ∀ b, ¬ φ.T b := h3.inv
  have h3' : Sit G B.part B.w0 φ [] (some (0, [], [.nilptr], true)) :=
    ⟨h3.heap, h3.keeps, h3.new, h3.pins, h3.psz, h3.glob, h3.tnew, .inr ⟨rfl, rfl, .nilptr, [], rfl, fun b hb => absurd hb (hT b), fun x h e => by cases e⟩⟩
  refine (FnG.intro hf hb hN h B.part φ vs h0 h1 h2 h3').mono ?_
  rintro e w' ⟨v, p, H', g', φ', he, ⟨u, hu, hle⟩, hv, hs⟩
  have hd := (frzT_ok hs.heap hv hu).le hle
  have hs := hs.drop
  have hno : ∀ b, ¬ own (⟨φ'.f, fun _ => False⟩ : Nm) [] b := fun b h => h.elim (row_nil b) id
  refine ⟨v, .d x, [], none, ⟨φ'.f, fun _ => False⟩, he, ⟨rfl, rfl⟩, .d ((repV_d hd).noRef hx), ⟨⟨fun r x b h => by simp [hget] at h, fun r x h => by simp [hget] at h, fun r s x y b h => by simp [hget] at h, fun b h => h.elim⟩, hs.keeps, fun r x b h => by simp [hget] at h, fun r x h => by simp [hget] at h, fun r x b h => by simp [hget] at h, fun g x hm => ?_, fun b h => h.elim, fun b h => h⟩⟩
  obtain ⟨cs, e, f, v, h5, h6, h7, h8, h9⟩ := hs.glob g x hm
  exact ⟨cs, e, f, v, h5, hno g, h7.mono (fun b k hb => ⟨hb.1, hb.2.1, hno b⟩) (fun _ _ _ => rfl), h8, h9⟩
def borL : List PV → List PV → Prop
  | [], [] => True
  | p :: l, q :: m => (q = p ∨ ∃ x, p = .d x ∧ q = .b x) ∧ borL l m
  | _, _ => False
theorem borL_get : ∀ {l m : List PV}, borL l m → l.length = m.length ∧ ∀ i (hi : i < l.length) (hi' : i < m.length), m[i] = l[i] ∨ ∃ x, l[i] = .d x ∧ m[i] = .b x
  | [], [], _ => ⟨rfl, fun i hi => by simp at hi⟩
  | p :: l, q :: m, h => by
    obtain ⟨h1, h2⟩ := borL_get h.2
    refine ⟨by simp [h1], fun i hi hi' => ?_⟩
    cases i with
    | zero => exact h.1
    | succ i => simpa using h2 i (by simpa using hi) (by simpa using hi')
  | [], _ :: _, h => h.elim
  | _ :: _, [], h => h.elim
def dAll : List PV → Bool
  | [] => true
  | .d _ :: l => dAll l
  | _ => false
theorem dAll_get : ∀ {l : List PV}, dAll l = true → ∀ i (hi : i < l.length), ∃ x, l[i] = .d x
  | [], _, i, hi => by simp at hi
  | p :: l, h, i, hi => by
    cases p <;> simp only [dAll, Bool.false_eq_true] at h
    cases i with
    | zero => exact ⟨_, rfl⟩
    | succ i => simpa using dAll_get h i (by simpa using hi)
def Base.bare (B : Base P) : Base P := { B with X := fun _ _ => False, hX := fun _ _ h => h.elim, J := fun _ _ _ _ => True, stab := fun _ _ _ _ _ _ _ _ _ _ _ _ _ => trivial, fr := false, y := none, yok := fun _ _ h => by cases h }
theorem Sit.bare {H : Heap} (hs : Sit G B w φ [] none) : Sit G B.bare w φ [] none := by
  refine ⟨⟨fun r x b h => by simp [hget] at h, fun r x h => by simp [hget] at h, fun r s x y b h => by simp [hget] at h, fun b h => ⟨(hs.heap.far b h).1, fun _ h => h, (hs.heap.far b h).2.2⟩⟩, hs.keeps, fun r x b h => by simp [hget] at h, fun r x h => by simp [hget] at h, fun r x b h => by simp [hget] at h, fun g x hm => ?_, hs.tnew, hs.inv⟩
  obtain ⟨cs, e, f, v, h5, h6, h7, h8, h9⟩ := hs.glob g x hm
  exact ⟨cs, e, f, v, h5, h6, h7.mono (fun b k hb => ⟨hb.1, fun h => h, hb.2.2⟩) (fun _ _ _ => rfl), h8, h9.1, fun h => h⟩
theorem PureFn.bor (hG : noRefG G) {f : FuncId} {args args' : List PV} {x : PD} (h : PureFn P G f args (.d x)) (hx : noRef x = true) (hd : dAll args = true) (hb : borL args args') : PureFn P G f args' (.d x) := by
  intro B φ vs h0 h1 h2 h3
  obtain ⟨hl, hg⟩ := borL_get hb
  have hT : ∀ b, ¬ φ.T b := h3.inv
  refine (h B.bare φ vs h0 (h1.trans hl.symm) (fun i hi => ?_) (Sit.bare (H := []) h3)).mono ?_
  · have h4 := h2 i (hl ▸ hi)
    obtain ⟨z, hz⟩ := dAll_get hd i hi
    rw [hz]
    rcases hg i hi (hl ▸ hi) with e | ⟨y, e1, e2⟩
    · rw [e, hz] at h4
      exact .d ((repV_d h4).mono (fun b k hb => ⟨hb.1, fun h => h, hb.2.2⟩) (fun _ _ _ => rfl))
    · rw [hz] at e1
      simp only [PV.d.injEq] at e1; subst e1
      rw [e2] at h4
      exact .d ((repV_b h4).mono (fun b k hb => ⟨hb.1, fun h => h, hb.2⟩) (fun _ _ _ => rfl))
  · rintro e w' ⟨v, p, H', g', φ', he, ⟨rfl, rfl⟩, hv, hs⟩
    have hno : ∀ b, ¬ own (⟨φ'.f, fun _ => False⟩ : Nm) [] b := fun b h => h.elim (row_nil b) id
    refine ⟨v, .d x, [], none, ⟨φ'.f, fun _ => False⟩, he, ⟨rfl, rfl⟩, .d ((repV_d hv).noRef hx), ⟨⟨fun r x b h => by simp [hget] at h, fun r x h => by simp [hget] at h, fun r s x y b h => by simp [hget] at h, fun b h => h.elim⟩, hs.keeps, fun r x b h => by simp [hget] at h, fun r x h => by simp [hget] at h, fun r x b h => by simp [hget] at h, fun g x hm => ?_, fun b h => h.elim, fun b h => h⟩⟩
    obtain ⟨cs, e, f, v, h5, h6, h7, h8, h9⟩ := hs.glob g x hm
    obtain ⟨cs', e', f', v', k5, k6, k7, k8, k9⟩ := h3.glob g x hm
    exact ⟨cs, e, f, v, h5, hno g, h7.noRef (hG g x hm), h8, h9.1, k9.2⟩
end
end Go.Pv

namespace Go.Pv
def AWpB {P : Program} (B : Base P) (G : List (Nat × PD)) (N : Nat) (c : Code) (σ : St) (Q : Post) : Prop :=
  ∀ a w φ, Rep G B N σ a w φ → ∀ (Q' : Exit → Act → World → Prop), (∀ e σ' a' w' φ', Q e σ' → Rep G B N σ' a' w' φ' → Q' e a' w') → c.wpIn (Fw B.ro) 0 P Q' a w
def AOpsB {P : Program} (B : Base P) (G : List (Nat × PD)) (N : Nat) (ops : Array Oper) (l : List Oper) (σ : St) (Q : St → Prop) : Prop :=
  ∀ a w φ, Rep G B N σ a w φ → ∀ (Q' : Exit → Act → World → Prop), (∀ σ' a' w' φ', Q σ' → Rep G B N σ' a' w' φ' → Q' .normal a' w') → wpL (Fw B.ro) 0 P ops Q' l a w
def OpTB {P : Program} (B : Base P) (G : List (Nat × PD)) (N : Nat) (o : Oper) (σ : St) (K : St → Prop) : Prop :=
  ∀ a w φ, Rep G B N σ a w φ → ∀ (next : Act → World → Prop) (Q : Exit → Act → World → Prop),
    (∀ σ' a' w' φ', K σ' → Rep G B N σ' a' w' φ' → next a' w') → o.wpIn (Fw B.ro) 0 P a w next Q
section
variable {P : Program} {B : Base P} {G : List (Nat × PD)} {N : Nat} {σ τ : St} {ops : Array Oper}
theorem AWpB.of {c : Code} {Q : Post} (h : AWp P G B.ro N c σ Q) : AWpB B G N c σ Q := fun a w φ hr Q' hq => h B rfl a w φ hr Q' hq
theorem AWpB.sub {c : Code} {Q : Post} (hs : Sub G N σ τ) (h : AWpB B G N c τ Q) : AWpB B G N c σ Q :=
  fun a w φ hr Q' hq => let ⟨φ', h1⟩ := hs P B a w φ hr; h a w φ' h1 Q' hq
theorem AWpB.mono {c : Code} {Q Q' : Post} (h : AWpB B G N c σ Q) (hq : ∀ e σ, Q e σ → Q' e σ) : AWpB B G N c σ Q' :=
  fun a w φ hr R hR => h a w φ hr R fun e σ' a' w' φ' h1 h2 => hR e σ' a' w' φ' (hq _ _ h1) h2
theorem AWpB.seq {x y : Code} {Q : Post} (K : St → Prop) (h : AWpB B G N x σ (Post.then K Q)) (h2 : ∀ σ, K σ → AWpB B G N y σ Q) : AWpB B G N (.seq x y) σ Q := by
  intro a w φ hr Q' hq
  refine wpIn_seq (h a w φ hr _ fun e σ' a' w' φ' h1 hr' => ?_)
  cases e with
  | normal => exact h2 _ h1 a' w' φ' hr' Q' hq
  | _ => exact hq _ _ _ _ _ h1 hr'
theorem AWpB.cond {c : Operand} {x y : Code} {Q : Post} {b : Bool} (hc : σ.eval c = .d (.bool b)) (h1 : b = true → AWpB B G N x σ Q) (h2 : b = false → AWpB B G N y σ Q) : AWpB B G N (.cond c x y) σ Q := by
  intro a w φ hr Q' hq
  have hv := hr.eval c
  rw [hc] at hv
  exact wpIn_cond_split (repV_bool hv) (fun h => h1 h a w φ hr Q' hq) (fun h => h2 h a w φ hr Q' hq)
theorem AWpB.block {id : Nat} {c : Code} {Q : Post} (h : AWpB B G N c σ (Post.inBlock id Q)) : AWpB B G N (.block id c) σ Q := by
  intro a w φ hr Q' hq
  refine wpIn_block (h a w φ hr _ fun e σ' a' w' φ' h1 h2 => ?_)
  cases e with
  | exit j =>
    simp only [Post.inBlock] at h1
    simp only [Exit.inBlock]
    split
    · rename_i h; rw [if_pos h] at h1; exact hq _ _ _ _ _ h1 h2
    · rename_i h; rw [if_neg h] at h1; exact hq _ _ _ _ _ h1 h2
  | _ => exact hq _ _ _ _ _ h1 h2
theorem AWpB.loopI {ι : Type} {c : Code} {Q : Post} (T : ι → St) (p : ι → Prop) (μ : ι → Nat) (i0 : ι) (h0 : p i0) (hs : Sub G N σ (T i0))
    (h : ∀ i, p i → AWpB B G N c (T i) (Post.then (fun σ' => ∃ i', p i' ∧ μ i' < μ i ∧ Sub G N σ' (T i')) Q)) : AWpB B G N (.loop c) σ Q := by
  intro a w φ hr Q' hq
  classical
  let ex : Act → World → Nat → Prop := fun a w m => ∃ i φ, p i ∧ μ i = m ∧ Rep G B N (T i) a w φ
  let J : Act → World → Prop := fun a w => ∃ m, ex a w m
  let ν : Act → World → Nat := fun a w => if h : ∃ m, ex a w m then Classical.choose (exists_least h) else 0
  obtain ⟨φ0, hr0⟩ := hs P B a w φ hr
  refine wpIn_loop J ν ⟨_, i0, φ0, h0, rfl, hr0⟩ fun a w hJ => ?_
  have hν : ν a w = Classical.choose (exists_least hJ) := dif_pos hJ
  obtain ⟨⟨i, φ1, h1, hm, h2⟩, hmin⟩ := Classical.choose_spec (exists_least hJ)
  refine h i h1 a w φ1 h2 _ fun e σ' a' w' φ' h3 h4 => ?_
  cases e with
  | normal =>
    obtain ⟨i', g1, g2, g3⟩ := h3
    obtain ⟨φ2, h5⟩ := g3 P B a' w' φ' h4
    have hex' : ∃ m, ex a' w' m := ⟨_, i', φ2, g1, rfl, h5⟩
    refine ⟨hex', ?_⟩
    show ν a' w' < ν a w
    rw [hν, show ν a' w' = Classical.choose (exists_least hex') from dif_pos hex', ← hm]
    exact Nat.lt_of_le_of_lt ((Classical.choose_spec (exists_least hex')).2 _ ⟨i', φ2, g1, rfl, h5⟩) g2
  | _ => exact hq _ _ _ _ _ h3 h4
theorem AWpB.reg {id : Nat} {l : List Oper} {Q : Post} (h : AOpsB B G N l.toArray l σ (Q .normal)) : AWpB B G N (.region id l.toArray false) σ Q :=
  fun a w φ hr Q' hq => wpIn_region (wpOps_list (by simpa using h a w φ hr Q' (fun σ' a' w' φ' h1 h2 => hq .normal σ' a' w' φ' h1 h2)))
theorem AOpsB.of {l : List Oper} {Q : St → Prop} (h : AOps P G B.ro N ops l σ Q) : AOpsB B G N ops l σ Q := fun a w φ hr Q' hq => h B rfl a w φ hr Q' hq
theorem AOpsB.pre {l : List Oper} {Q : St → Prop} (n : Nat) (K : St → Prop) (h1 : AOps P G B.ro N ops (l.take n) σ K) (h2 : ∀ τ, K τ → AOpsB B G N ops (l.drop n) τ Q) : AOpsB B G N ops l σ Q := by
  have key : ∀ (l m : List Oper) (Q' : Exit → Act → World → Prop) (a : Act) (w : World), wpL (Fw B.ro) 0 P ops (fun e a w => match e with | .normal => wpL (Fw B.ro) 0 P ops Q' m a w | e => Q' e a w) l a w → wpL (Fw B.ro) 0 P ops Q' (l ++ m) a w := by
    intro l
    induction l with
    | nil => intro m Q' a w h; exact h
    | cons o l ih =>
      intro m Q' a w h
      simp only [List.cons_append, wpL] at h ⊢
      split at h
      · rename_i hw
        rw [if_pos hw]
        exact Oper.wpIn_off (fun a w h => ih m Q' a w h) (fun e a w hne h => by
          cases e <;> first | exact absurd rfl hne | exact h) h
      · rename_i hw
        rw [if_neg hw]
        exact ⟨h.1, ih m Q' _ w h.2⟩
  intro a w φ hr Q' hq
  rw [← List.take_append_drop n l]
  exact key _ _ _ _ _ (h1 B rfl a w φ hr _ fun σ' a' w' φ' hs hr' => h2 σ' hs a' w' φ' hr' Q' hq)
theorem AOpsB.last {o : Oper} {Q : St → Prop} (hg : o.guard = none) (h : OpTB B G N o σ Q) : AOpsB B G N ops [o] σ Q := by
  intro a w φ hr Q' hq
  simp only [wpL, Region.wanted, hg, if_true]
  exact h a w φ hr _ _ fun σ' a' w' φ' h1 h2 => hq σ' a' w' φ' h1 h2
def wipe : PV → PV
  | .d y => if noRef y = true then .d y else .any
  | .val v => .val v
  | _ => .any
def wipeE : List (Nat × PV) → List (Nat × PV)
  | [] => []
  | (t, p) :: l => (t, wipe p) :: wipeE l
theorem eget_wipeE : ∀ (l : List (Nat × PV)) (t : Nat), eget (wipeE l) t = wipe (eget l t)
  | [], t => rfl
  | (s, p) :: l, t => by
    simp only [wipeE, eget]
    split
    · rfl
    · exact eget_wipeE l t
theorem RepV.wipe {w w' : World} {X X' : Nat → Nat → Prop} {φ φ' : Nm} {H H' : Heap} {v : Value} {p : PV} (h : RepV w X φ H v p) : RepV w' X' φ' H' v (Pv.wipe p) := by
  cases h <;> simp only [Pv.wipe] <;> first | exact .any _ | skip
  · split
    · rename_i hd hn; exact .d (hd.noRef hn)
    · exact .any _
  · rename_i hf; exact .val hf
def cellD (els : List PD) (i off : Nat) : Option PD :=
  match els[i]? with
  | some (.agg cs) => cs[off]?
  | some c => if off = 0 then some c else none
  | none => none
theorem Dfr.empty {m : Nat → Prop} {w : World} {X : Nat → Nat → Prop} {φ : Nm} {H : Heap} {ds : List Deferred} (h : Dfr m w X φ H ds []) (hm : ∀ D, ¬ m D) : ds = [] := by
  cases h with
  | nil => rfl
  | mark h => exact absurd h (hm _)
theorem RepD.cell_int {w : World} {ok : Nat → Nat → Prop} {F : Nat → Value} {els : List PD} {k i off : Nat} {kd : IntKind} {n : Int} (hi : i < els.length) (hr : RepD w ok (F i) els[i]) (hk : (F i).cells.size = k) (he : cellD els i off = some (.int kd n)) :
    off < k ∧ (F i).cells.getD off undef = .int kd n := by
  unfold cellD at he
  rw [List.getElem?_eq_getElem hi] at he
  generalize els[i] = x at he hr
  generalize F i = v at hr hk ⊢
  split at he
  · rename_i cs hx
    simp only [Option.some.injEq] at hx; subst hx
    cases hr with
    | @agg vs ps hs hr' hf =>
      obtain ⟨ho, he⟩ := List.getElem?_eq_some_iff.1 he
      simp only [Value.cells] at hk ⊢
      have h1 := hr' off ho
      rw [he] at h1
      refine ⟨by omega, ?_⟩
      generalize vs.getD off undef = u at h1
      cases h1; rfl
  · rename_i c hc hx
    simp only [Option.some.injEq] at hx; subst hx
    split at he <;> simp only [Option.some.injEq, reduceCtorEq] at he
    rename_i h0; subst h0; subst he
    cases hr
    exact ⟨by rw [← hk]; simp [Value.cells], rfl⟩
  · cases he
theorem storeD {o : Oper} {t : TypeId} {ad u : Operand} {y : Ty} {k i off : Nat} {els : List PD} {kd : IntKind} {n n0 : Int} {r : Nat} {x : PD} {rest : List (Nat × PV)} {l0 : Nat} {m : PD} {d0 : Bool} {K : St → Prop}
    (hB : ∀ b kk, b < B.w0.heap.size → ¬ B.X b kk → B.o0 b) (ho : o.op = .store t ad u) (ht : tyOf P t = some y) (hy : y.size = 1) (ha : σ.eval ad = .dptr k els i off) (hu : σ.eval u = .d (.int kd n)) (he : cellD els i off = some (.int kd n0)) (h8 : kd ≠ .u8)
    (henv : σ.env = (r, .d x) :: rest) (hh : σ.heap = []) (hdf : σ.dfr = []) (hgh : σ.gh = some (l0, [], [m], d0)) (hd : dstOk N o.dst)
    (hK : ∀ x', shp x x' → K (({ σ with env := (r, .d x') :: wipeE rest } : St).put o.dst .any)) : OpTB B [] N o σ K := by
  intro a w φ hr next Q hn
  have hav := hr.eval ad
  rw [ha] at hav
  have huv := hr.eval u
  rw [hu] at huv
  have huv : a.eval u = .int kd n := by
    have h0 := repV_d huv
    generalize a.eval u = v at h0 ⊢
    cases h0; rfl
  generalize hadv : a.eval ad = av at hav
  cases hav with
  | @dptr c n' cap _ _ _ _ hd' hi =>
  cases hd' with
  | imm F ha' hok hn' hcap hr' hk hf hc hz =>
    obtain ⟨h1, h2⟩ := RepD.cell_int hi (hr' i hi) (hk i hi) he
    have hne : els ≠ [] := fun e => by subst e; simp at hi
    have hcell := hc i hi off h1
    rw [h2] at hcell
    have hfz := hz i hi off h1 (by rw [h2]; cases kd <;> first | rfl | exact absurd rfl h8)
    have hb := hok hne
    generalize hp : c.off + i * k + off = p at hcell hfz
    generalize hbk : c.block = b at hcell hfz hb
    -- the block
    obtain ⟨cs, e, f, hcs⟩ : ∃ cs e f, w.heap[b]? = some (.cells cs e f) := by
      unfold World.cell? at hcell
      dsimp only at hcell
      cases hob : w.heap[b]? with
      | none => simp [hob] at hcell
      | some ob =>
        cases ob with
        | cells cs e f => exact ⟨cs, e, f, rfl⟩
        | _ => simp [hob] at hcell
    have hlt : b < w.heap.size := (Array.getElem?_eq_some_iff.1 hcs).1
    have hcp : cs[p]? = some (.int kd n0) := by
      unfold World.cell? at hcell
      simpa [hcs] using hcell
    have hpl : p < cs.size := (Array.getElem?_eq_some_iff.1 hcp).1
    let w' := w.setCell ⟨b, p, none⟩ (.int kd n)
    have hcs' : w'.heap[b]? = some (.cells (cs.setIfInBounds p (.int kd n)) e f) := cells_setRow w b cs e f hcs _ _
    have hoth : ∀ b', b' ≠ b → w'.heap[b']? = w.heap[b']? := fun b' h => heap_setCell_other w ⟨b, p, none⟩ _ h
    have hsize : w'.heap.size = w.heap.size := by simp [w']
    have hpk : Poked w w' b p kd n0 n := by
      refine ⟨hcell, fun c' o' => ?_, fun a' => ?_⟩
      · by_cases hcb : c' = b
        · subst hcb
          simp only [World.cell?, hcs', hcs, Option.isSome_none, Bool.false_eq_true, if_false, true_and]
          by_cases hop : o' = p
          · subst hop; simp [hpl]
          · rw [if_neg hop]; simp [Array.getElem?_setIfInBounds, Ne.symm hop]
        · simp only [World.cell?, hoth _ hcb, hcb, false_and, if_false]
      · unfold World.frozen?
        by_cases hcb : a'.block = b
        · rw [hcb, hcs', hcs]
        · rw [hoth _ hcb]
    have hkeep : Keeps (· = b) w w' := ⟨rfl, rfl, rfl, Nat.le_of_eq hsize.symm, fun b' _ hne => hoth b' hne⟩
    have hokd : ∀ b' kk, okd w B.X φ σ.heap b' kk → okd w' B.X φ σ.heap b' kk := fun b' kk h => ⟨hsize.symm ▸ h.1, h.2⟩
    have hx0 := hr.env r
    have er : eget σ.env r = .d x := by rw [henv]; simp [eget]
    rw [er] at hx0
    obtain ⟨x', hx1, hx2⟩ := (repV_d hx0).poke hpk
    obtain ⟨q1, q2⟩ := hr.part hgh
    have hnil : ∀ r', hget σ.heap r' = none := fun r' => by rw [hh]; rfl
    have hdf0 : a.defers ++ B.held = [] := by
      have := hr.dfr
      rw [hdf] at this
      exact this.empty fun D hD => by have := hD.1; rw [hgh] at this; cases this
    have hrep : Rep [] B N { σ with env := (r, .d x') :: wipeE rest } a w' φ := by
      refine ⟨hr.size, fun s => ?_, ⟨fun r' z b' g => (by rw [hnil] at g; cases g), fun r' z g => (by rw [hnil] at g; cases g), fun r' s' z z' b' g => (by rw [hnil] at g; cases g), fun b' hb' => ?_⟩,
        ?_, fun r' z b' g => (by rw [hnil] at g; cases g), fun r' z g => (by rw [hnil] at g; cases g), fun r' z b' g => (by rw [hnil] at g; cases g), fun g z hm => by simp at hm, hr.tnew, ?_, ?_⟩
      · simp only [eget]
        split
        · rename_i hs; subst hs; exact .d (hx2.mono hokd (fun _ _ _ => rfl))
        · rename_i hs
          have := hr.env s
          rw [henv] at this
          simp only [eget, hs, if_false] at this
          rw [eget_wipeE]
          exact this.wipe
      · obtain ⟨g1, g2, g3⟩ := hr.heap.far b' hb'
        exact ⟨hsize.symm ▸ g1, g2, g3⟩
      · refine ⟨hkeep.os.trans hr.keeps.os, hkeep.tape.trans hr.keeps.tape, hkeep.output.trans hr.keeps.output, Nat.le_trans hr.keeps.size hkeep.size, fun b' hb' ho' => ?_⟩
        refine (hkeep.block b' (Nat.lt_of_lt_of_le hb' hr.keeps.size) (fun e => ?_)).trans (hr.keeps.block b' hb' ho')
        subst e
        exact ho' (hB _ _ hb' hb.2.1)
      · show B.inv σ.gh _ _ _
        rw [hgh]
        exact .inr ⟨q1, rfl, m, [], rfl, fun b' hb' => ⟨hsize.symm ▸ (q2.1 b' hb').1, (q2.1 b' hb').2⟩, fun z h e => by cases e⟩
      · show Dfr _ _ _ _ _ _ σ.dfr
        rw [hdf0, hdf]; exact .nil
    refine wpIn_skip' (w' := w') ?_ (hn _ _ _ φ (hK x' hx1) (hrep.put hd (.any _)))
    rw [Oper.semAt_eq _ _ _ (fun c hc => by rw [ho] at hc; cases hc)]
    unfold execOp
    simp only [ho]
    have hrun : (Instr.storeAt t (a.eval ad) (a.eval u)).run P w = .ok () w' := by
      rw [hadv, huv]
      simp only [Instr.storeAt, Instr.sureAddr, storeVar, Sem.run_bind, Sem.run_pure, run_tySize ht, Result.andThen]
      rw [if_neg (by simp [Value.cells, hy])]
      simp only [Value.cells, storeCells, Sem.run_bind, add_eq, hp, hbk, Nat.add_zero, run_store P w _ _ .plain (show flat (.int kd n) = true from rfl), hcell, hfz, Bool.false_eq_true, if_false, Result.andThen]
      rfl
    rw [Sem.run_bind, hrun]; rfl
def flatPV : PV → Bool
  | .any | .d (.agg _) | .b (.agg _) | .agg _ | .tuple _ => false
  | _ => true
theorem flat_of_flatPV {w : World} {X : Nat → Nat → Prop} {φ : Nm} {H : Heap} {v : Value} {p : PV} (h : RepV w X φ H v p) (hp : flatPV p = true) : flat v = true :=
  flat_of_repV h (fun e => by subst e; cases hp) (fun _ e => by subst e; cases hp) (fun _ e => by subst e; cases hp) (fun _ e => by subst e; cases hp) (fun _ e => by subst e; cases hp)
theorem eget_vals (val : Nat → Value) : ∀ (ks : List Nat) (t : Nat), eget (ks.map fun k => (k, PV.val (val k))) t = if t ∈ ks then .val (val t) else .any
  | [], t => rfl
  | k :: ks, t => by
    simp only [List.map_cons, eget, List.mem_cons]
    by_cases h : k = t
    · subst h; simp
    · rw [if_neg h, eget_vals val ks t]; simp [Ne.symm h]
theorem eget_kenv (e : List (Nat × PV)) : ∀ (ks : List Nat) (t : Nat), eget (kenv ks e) t = if t ∈ ks then eget e t else .any
  | [], t => rfl
  | k :: ks, t => by
    simp only [kenv, eget, List.mem_cons]
    by_cases h : k = t
    · subst h; simp
    · rw [if_neg h, eget_kenv e ks t]; simp [Ne.symm h]
theorem AWp.apart {ro : Option Nat} {c : Code} {Q : Post} {r l0 : Nat} {x m : PD} {h : List PD} {d0 : Bool} (ks : List Nat) (E : Exit → Prop) (hg : σ.gh = some (l0, [], m :: x :: h, d0)) (hdf : σ.dfr = []) (hr0 : eget σ.env r = .val (hdr h)) (hrk : r ∉ ks)
    (hks : ks.all (fun k => flatPV (eget σ.env k)) = true)
    (hL : ∀ (B : Base P) (val : Nat → Value), B.ro = ro → (∀ b kk, b < B.w0.heap.size → ¬ B.X b kk → B.o0 b) →
      AWpB B [] N c ⟨(r, .d x) :: ks.map (fun k => (k, .val (val k))), [], [], some (0, [], [.nilptr], true)⟩ (fun e τ => E e ∧ τ.dfr = [] ∧ τ.gh = some (0, [], [.nilptr], true) ∧ ∀ k ∈ ks, eget τ.env k = .val (val k)))
    (hQ : ∀ e, E e → Q e ⟨kenv ks σ.env, σ.heap, [], some (l0, [], [m], d0)⟩) : AWp P G ro N c σ Q := by
  intro B hro a w φ hr Q' hq
  obtain ⟨hfr, hj⟩ := hr.part hg
  have hd0 : a.defers ++ B.held = [] := by
    have := hr.dfr
    rw [hdf] at this
    exact this.empty fun D hD => by have := hD.1; rw [hg] at this; cases this
  let B' : Base P := { w0 := w, X := fun b _ => b < w.heap.size ∧ ¬ φ.T b, hX := fun _ _ h => h.1, o0 := φ.T, φ0 := fun _ => none, z0 := fun _ => 0, ro := ro, held := B.held, hheld := fun h => B.hheld (hro.trans h), J := fun _ _ _ _ => True, stab := fun _ _ _ _ _ _ _ _ _ _ _ _ _ => trivial, fr := true, y := none, yok := fun _ _ h => by cases h }
  let val : Nat → Value := fun k => a.tmps.getD k undef
  have hrep : Rep [] B' N ⟨(r, .d x) :: ks.map (fun k => (k, .val (val k))), [], [], some (0, [], [.nilptr], true)⟩ a w Nm.no := by
    refine ⟨hr.size, fun t => ?_, ⟨fun r x b h => by simp [hget] at h, fun r x h => by simp [hget] at h, fun r s x y b h => by simp [hget] at h, fun b h => h.elim⟩, .refl _ _, fun r x b h => by simp [hget] at h, fun r x h => by simp [hget] at h, fun r x b h => by simp [hget] at h, fun g x hm => by simp at hm, fun b h => h.elim,
      .inr ⟨rfl, rfl, .nilptr, [], rfl, fun b h => h.elim, fun x h e => by cases e⟩, ?_⟩
    · simp only [eget]
      split
      · rename_i ht; subst ht
        have hv := hr.env r
        rw [hr0] at hv
        rw [repV_val hv]
        exact .d ((hj.2 x h rfl).mono (fun b kk hb => ⟨(hj.1 b hb).1, fun hX => hX.2 hb, no_own b⟩) (fun _ _ _ => rfl))
      · rw [eget_vals]
        split
        · rename_i ht
          exact .val (flat_of_flatPV (hr.env t) (List.all_eq_true.1 hks t ht))
        · exact .any _
    · show Dfr _ _ _ _ _ (a.defers ++ B.held) []
      rw [hd0]; exact .nil
  have hrun := hL B' val rfl (fun b kk hb hX => Classical.byContradiction fun hn => hX ⟨hb, hn⟩) a w Nm.no hrep Q' (fun e τ a' w' φ' ⟨hE, hτd, hτg, hval⟩ hr' => ?_)
  · have : B'.ro = ro := rfl
    rw [this] at hrun
    exact hrun
  have hk : Keeps φ.T w w' := hr'.keeps
  have hsz := hk.size
  have hown : ∀ b, own φ σ.heap b → b < w.heap.size := fun _ => hr.heap.own_lt
  have hrb : ∀ r x b, hget σ.heap r = some x → φ r = some b → w'.heap[b]? = w.heap[b]? := fun r x b g1 g2 => hk.block b (hr.heap.lt g1 g2) (fun hT => (hr.heap.far b hT).2.2 ⟨r, x, g1, g2⟩)
  have hext : Ext w B.X φ σ.heap w' φ σ.heap := ⟨fun r x h => ⟨x, h, rfl, fun _ => rfl, rfl⟩, fun b kk h => ⟨Nat.lt_of_lt_of_le h.1 hsz, h.2⟩, fun b kk h => ⟨Nat.lt_of_lt_of_le h.1 hsz, h.2⟩,
    fun b kk h => hk.block b h.1 (fun hT => h.2 (.inr hT)), fun r x b g1 g2 c e f hh => ⟨c, e, f, (hrb r x b g1 g2) ▸ hh, rfl⟩⟩
  refine hq e _ a' w' φ (hQ e hE) ?_
  refine ⟨hr'.size, fun t => ?_, ⟨fun r x b g1 g2 => (hr.heap.rows r x b g1 g2).ext hext (hrb r x b g1 g2), hr.heap.void, hr.heap.inj, fun b hb => ⟨Nat.lt_of_lt_of_le (hr.heap.far b hb).1 hsz, (hr.heap.far b hb).2⟩⟩,
    ⟨hk.os.trans hr.keeps.os, hk.tape.trans hr.keeps.tape, hk.output.trans hr.keeps.output, Nat.le_trans hr.keeps.size hsz, fun b hb ho => ?_⟩, hr.new, hr.pins, fun r x b g1 g2 g3 => (csz_of (hrb r x b g1 g3)).trans (hr.psz r x b g1 g2 g3), hr.glob.ext hext (fun n z hm => ?_), hr.tnew, ?_, ?_⟩
  · rw [eget_kenv]
    split
    · rename_i ht
      have hv := hr'.env t
      rw [hval t ht] at hv
      rw [repV_val hv]
      exact (hr.env t).ext hext
    · exact .any _
  · refine (hk.block b (Nat.lt_of_lt_of_le hb hr.keeps.size) (fun hT => ?_)).trans (hr.keeps.block b hb ho)
    rcases hr.tnew b hT with h | h
    · exact ho h
    · omega
  · obtain ⟨c, e, f, v, g1, g2, _⟩ := hr.glob n z hm
    exact g2
  · exact .inr ⟨hfr, rfl, m, [], rfl, fun b hb => ⟨Nat.lt_of_lt_of_le (hj.1 b hb).1 hsz, (hj.1 b hb).2⟩, fun z h e => by cases e⟩
  · have : a'.defers ++ B.held = [] := by
      have := hr'.dfr
      rw [hτd] at this
      exact this.empty fun D hD => by have := hD.1; rw [hτg] at this; cases this
    show Dfr _ _ _ _ _ (a'.defers ++ B.held) []
    rw [this]; exact .nil
end
end Go.Pv

namespace Go.Pv
section
variable {P : Program} {B : Base P} {G : List (Nat × PD)} {ro : Option Nat} {N : Nat} {σ τ : St} {ops : Array Oper} {w : World} {φ : Nm}
def dOk (q : PV) : PV → Prop
  | .any => True
  | .d x => q = .d x ∨ q = .b x
  | _ => False
def envD (e : List (Nat × PV)) : List (Nat × PV) → Prop
  | [] => True
  | (t, p) :: l => dOk (eget e t) p ∧ envD e l
def bOk (q : PV) : PV → Prop
  | .any => True
  | .b x => q = .d x
  | .d x => q = .d x ∧ noRef x = true
  | _ => False
def envB (e : List (Nat × PV)) : List (Nat × PV) → Prop
  | [] => True
  | (t, p) :: l => bOk (eget e t) p ∧ envB e l
theorem envD_get {e : List (Nat × PV)} : ∀ {l : List (Nat × PV)}, envD e l → ∀ t, dOk (eget e t) (eget l t)
  | [], _, t => trivial
  | (s, p) :: l, h, t => by
    simp only [eget]
    split
    · rename_i hs; subst hs; exact h.1
    · exact envD_get h.2 t
theorem envB_get {e : List (Nat × PV)} : ∀ {l : List (Nat × PV)}, envB e l → ∀ t, bOk (eget e t) (eget l t)
  | [], _, t => trivial
  | (s, p) :: l, h, t => by
    simp only [eget]
    split
    · rename_i hs; subst hs; exact h.1
    · exact envB_get h.2 t
theorem AOps.bare {l : List Oper} {Q : St → Prop} (hG : noRefG G) (env1 env2 : List (Nat × PV)) (hh : σ.heap = []) (hd : σ.dfr = []) (hg : σ.gh = none) (he : envD σ.env env1)
    (h : AOps P G ro N ops l ⟨env1, [], [], none⟩ (fun τ => τ.dfr = [] ∧ τ.gh = none ∧ envB τ.env env2)) (hQ : Q ⟨env2, [], [], none⟩) : AOps P G ro N ops l σ Q := by
  intro B hro a w φ hr Q' hq
  have hT : ∀ b, ¬ φ.T b := by have := hr.inv; rw [hg] at this; exact this
  have hno : ∀ b, ¬ own φ [] b := fun b h => h.elim (row_nil b) (hT b)
  have hrep : Rep G B.bare N ⟨env1, [], [], none⟩ a w φ := by
    refine ⟨hr.size, fun t => ?_, ⟨fun r x b h => by simp [hget] at h, fun r x h => by simp [hget] at h, fun r s x y b h => by simp [hget] at h, fun b h => absurd h (hT b)⟩, hr.keeps, fun r x b h => by simp [hget] at h, fun r x h => by simp [hget] at h, fun r x b h => by simp [hget] at h, fun g x hm => ?_, hr.tnew, hT, ?_⟩
    · have h1 := envD_get he t
      have h2 := hr.env t
      generalize eget env1 t = p at h1 ⊢
      cases p <;> simp only [dOk] at h1
      · exact .any _
      · rcases h1 with h1 | h1
        · rw [h1] at h2; exact .d ((repV_d h2).mono (fun b k hb => ⟨hb.1, fun h => h, hno b⟩) (fun _ _ _ => rfl))
        · rw [h1] at h2; exact .d ((repV_b h2).mono (fun b k hb => ⟨hb.1, fun h => h, hno b⟩) (fun _ _ _ => rfl))
    · obtain ⟨cs, e, f, v, h5, h6, h7, h8, h9⟩ := hr.glob g x hm
      exact ⟨cs, e, f, v, h5, hno g, h7.mono (fun b k hb => ⟨hb.1, fun h => h, hno b⟩) (fun _ _ _ => rfl), h8, h9.1, fun h => h⟩
    · have := hr.dfr
      rw [hd] at this
      exact this.marks (fun D hD => ⟨rfl, hD.2⟩) (fun D hD _ => ⟨⟨hD.1, fun h => h, hno D⟩, rfl⟩)
  refine h B.bare hro a w φ hrep Q' fun τ a' w' φ' ⟨h1, h2, h3⟩ hr' => ?_
  have hT' : ∀ b, ¬ φ'.T b := by have := hr'.inv; rw [h2] at this; exact this
  have hno' : ∀ b, ¬ own φ' [] b := fun b h => h.elim (row_nil b) (hT' b)
  refine hq _ _ _ φ' hQ ⟨hr'.size, fun t => ?_, ⟨fun r x b h => by simp [hget] at h, fun r x h => by simp [hget] at h, fun r s x y b h => by simp [hget] at h, fun b h => absurd h (hT' b)⟩, hr'.keeps, fun r x b h => by simp [hget] at h, fun r x h => by simp [hget] at h, fun r x b h => by simp [hget] at h, fun g x hm => ?_, fun b h => absurd h (hT' b), hT', ?_⟩
  · have h1 := envB_get h3 t
    have h2 := hr'.env t
    generalize eget env2 t = p at h1 ⊢
    cases p <;> simp only [bOk] at h1
    · exact .any _
    · rw [h1.1] at h2; exact .d ((repV_d h2).noRef h1.2)
    · rw [h1] at h2; exact .b ((repV_d h2).mono (fun b k hb => ⟨hb.1, hno' b⟩) (fun _ _ _ => rfl))
  · obtain ⟨cs, e, f, v, h5, h6, h7, h8, h9⟩ := hr'.glob g x hm
    obtain ⟨cs', e', f', v', k5, k6, k7, k8, k9⟩ := hr.glob g x hm
    exact ⟨cs, e, f, v, h5, hno' g, h7.noRef (hG g x hm), h8, h9.1, k9.2⟩
  · have := hr'.dfr
    rw [h1] at this
    have h4 : ∀ D kk, B.w0.heap.size ≤ D → ¬ B.X D kk := fun D kk hD hX => absurd (B.hX D _ hX) (Nat.not_lt.2 hD)
    show Dfr _ w' B.X φ' [] (a'.defers ++ B.held) []
    have key : ∀ {ds : List Deferred} {ps : List PV}, Dfr (fun D => τ.gh = none ∧ B.bare.ro = none ∧ B.bare.w0.heap.size ≤ D) w' B.bare.X φ' τ.heap ds ps → ps = [] → Dfr (fun D => (none : Gh) = none ∧ B.ro = none ∧ B.w0.heap.size ≤ D) w' B.X φ' [] ds [] := by
      intro ds ps hd
      induction hd with
      | nil => intro _; exact .nil
      | fn => intro h; cases h
      | mark g0 g1 g2 g3 _ ih => intro h; exact .mark ⟨rfl, g0.2⟩ ⟨g1.1, h4 _ 0 g0.2.2, hno' _⟩ g2 g3 (ih h)
    exact key this rfl
def Base.bare0 (B : Base P) : Base P := { B.bare with o0 := fun _ => False }
theorem RowFn.bor (hG : noRefG G) {f : FuncId} {args args' : List PV} {e k : Nat} {l : List PD} (h : RowFn P G f args e k l) (hn : ∀ x ∈ l, noRef x = true) (hk : 1 ≤ k) (hd : dAll args = true) (hb : borL args args') : RowFn P G f args' e k l := by
  intro B φ vs h0 h1 h2 h3
  obtain ⟨hl, hg⟩ := borL_get hb
  have hT : ∀ b, ¬ φ.T b := h3.inv
  have h3' : Sit G B.bare0 B.w0 φ [] none := by
    have hs := Sit.bare (H := []) h3
    exact ⟨hs.heap, .refl _ _, fun r x b h => by simp [hget] at h, hs.pins, hs.psz, hs.glob, fun b h => absurd h (hT b), hs.inv⟩
  refine (h B.bare0 φ vs h0 (h1.trans hl.symm) (fun i hi => ?_) h3').mono ?_
  · have h4 := h2 i (hl ▸ hi)
    obtain ⟨z, hz⟩ := dAll_get hd i hi
    rw [hz]
    rcases hg i hi (hl ▸ hi) with e | ⟨y, e1, e2⟩
    · rw [e, hz] at h4
      exact .d ((repV_d h4).mono (fun b k hb => ⟨hb.1, fun h => h, hb.2.2⟩) (fun _ _ _ => rfl))
    · rw [hz] at e1
      simp only [PV.d.injEq] at e1; subst e1
      rw [e2] at h4
      exact .d ((repV_b h4).mono (fun b k hb => ⟨hb.1, fun h => h, hb.2⟩) (fun _ _ _ => rfl))
  · rintro e' w' ⟨v, p, H', g', φ', he, ⟨rfl, rfl⟩, hv, hs⟩
    -- the row is new
    have hnew : ∀ b, φ' 1000 = some b → B.w0.heap.size ≤ b := fun b hb => (hs.new 1000 { e, k, els := dl l } b (by simp [hget]) hb).resolve_left fun h => h
    have hX : ∀ b, φ' 1000 = some b → ∀ kk, ¬ B.X b kk := fun b hb kk h => absurd (B.hX b _ h) (Nat.not_lt.2 (hnew b hb))
    let φ2 : Nm := ⟨φ'.f, fun _ => False⟩
    have hrow : ∀ r x b, hget [(1000, ({ e, k, els := dl l } : Row))] r = some x → φ' r = some b → r = 1000 ∧ x = { e, k, els := dl l } := fun r x b h1 h2 => by
      simp only [hget] at h1
      split at h1
      · rename_i hr; subst hr; exact ⟨rfl, by simpa using h1.symm⟩
      · cases h1
    have helt : ∀ {X X' : Nat → Nat → Prop} {φ1 φ3 : Nm} {H H' : Heap} {v : Value} (i : Nat) (hi : i < (dl l).length), RepV w' X φ1 H v (dl l)[i] → RepV w' X' φ3 H' v (dl l)[i] := by
      intro X X' φ1 φ3 H H' v i hi hv
      have hil : i < l.length := by simpa [dl] using hi
      have e1 : (dl l)[i] = .d l[i] := by simp [dl]
      rw [e1] at hv ⊢
      exact .d ((repV_d hv).noRef (hn _ (List.getElem_mem hil)))
    refine ⟨v, _, _, none, φ2, he, ⟨rfl, rfl⟩, ?_, ⟨⟨fun r x b h1 h2 => ?_, hs.heap.void, hs.heap.inj, fun b h => h.elim⟩, ?_, fun r x b h1 h2 => .inr ?_, fun r x h1 h2 => ?_, fun r x b h1 h2 h3 => ?_, fun g x hm => ?_, fun b h => h.elim, fun b h => h⟩⟩
    · have key : ∀ n, RepV w' B.bare0.X φ' [(1000, { e, k, els := dl l })] v (.slc 1000 0 n) → RepV w' B.X φ2 [(1000, { e, k, els := dl l })] v (.slc 1000 0 n) := fun n hv => by
        cases hv with
        | slc g1 g2 g3 g4 g5 g6 g7 => exact .slc g1 g2 g3 g4 g5 g6 g7
        | slc0 g1 g2 g3 g4 => exact .slc0 g1 g2 g3 g4
      exact key _ hv
    · obtain ⟨rfl, rfl⟩ := hrow r x b h1 h2
      exact (hs.heap.rows 1000 _ b h1 h2).turn rfl rfl rfl (fun _ _ h => h) (hX b h2) (fun i hi _ v hv => helt i hi hv) fun _ h => h
    · exact ⟨hs.keeps.os, hs.keeps.tape, hs.keeps.output, hs.keeps.size, fun b hb _ => hs.keeps.block b hb fun h => h⟩
    · obtain ⟨rfl, rfl⟩ := hrow r x b h1 h2; exact hnew b h2
    · simp only [hget] at h1
      split at h1
      · rename_i hr; subst hr; simp [pinned] at h2
      · cases h1
    · simp only [hget] at h1
      split at h1
      · rename_i hr; subst hr; simp [pinned] at h2
      · cases h1
    · obtain ⟨cs, e', f', v, h5, h6, h7, h8, h9⟩ := hs.glob g x hm
      obtain ⟨cs', e'', f'', v', k5, k6, k7, k8, k9⟩ := h3.glob g x hm
      refine ⟨cs, e', f', v, h5, fun ho => h6 (ho.elim .inl fun h => h.elim), h7.noRef (hG g x hm), h8, h9.1, k9.2⟩
end
end Go.Pv

namespace Go.Pv
section
variable {P : Program} {B : Base P} {G : List (Nat × PD)} {ro : Option Nat} {N : Nat} {ops : Array Oper} {σ τ σ' : St} {o : Oper} {rest : List Oper}
theorem pfF {f : FuncId} {fn : Func} {c : Code} {args : List PV} {x : PD} {n : Nat} {e0 : List (Nat × PV)} (hx : noRef x = true) (hf : P.funcs[f]? = some fn) (hn : fn.ntmps = n)
    (h : AWp P G none n c ⟨e0, [], [], some (0, [], [.nilptr], true)⟩ (Fin P G fn fun p H => ∃ u, frzT H p = some u ∧ leV u (.d x))) (hb : fn.body = some c := by rfl) (hN : args.length ≤ n := by simp)
    (he : argEnv 0 args = e0 := by (simp only [argEnv, Nat.reduceAdd, Nat.zero_add]; rfl)) : PureFn P G f args (.d x) := by
  subst hn he; exact PureFn.introF hx hf hb hN h
theorem clFr {f : FuncId} {c : Call} {args : List PV} {x : PD} {zs : List PD} {l0 : Nat} {m : PD} {ys : List PD} {d0 : Bool} {S : List PD → St} {Q : St → Prop} (j : Nat) (s : Nat → Bool) (hG : ∀ g z, (g, z) ∈ G → sizD s z = true) (hf : PureFn P G f args (.tuple (zs.map .d))) (hj : zs[j]? = some x) (hb : args.all (bOnly s) = true) (hav : sizD (fun k => !s k) x = true)
    (hy : ∀ i, i ≠ j → ∀ z, zs[i]? = some z → noRef z = true) (h2 : ∀ h, AOps P G ro N ops rest (S h) Q)
    (hs0 : s 0 = true := by rfl) (hgh : σ.gh = some (l0, [], m :: ys, d0) := by rfl) (ho : o.op = .call c := by rfl) (hc : c.callee = .value (.func f) := by rfl) (hcal : callable P f = true := by kernel_rfl) (hg : o.guard = none := by rfl)
    (ha : argsOk σ.heap (evalL σ c.args.toList) args := by (repeat' (first | exact trivial | exact rfl | exact .inl rfl | exact .inr rfl | apply And.intro)))
    (hx : isLst x = true := by first | rfl | exact isLst_lst _ _) (hd : dstOk N o.dst := by (simp only [go_sem, ↓reduceIte]; done))
    (hp : ∀ h, ({ σ with gh := some (l0, [], m :: x :: h, d0) } : St).put o.dst (.tuple ((zs.map .d).set j (.val (hdr h)))) = S h := by (intro h; simp only [go_sem, List.map_cons, List.map_nil, List.set_cons_zero, List.set_cons_succ, ↓reduceIte]; rfl)) : AOps P G ro N ops (o :: rest) σ Q :=
  AOps.step hg (OpT.fresh j s hs0 hG hgh ho hc hcal hf hj ha hb hx hav hy hd fun h => by rw [hp h]; exact h2 h)
theorem clF {f : FuncId} {c : Call} {args : List PV} {res : PV} {Q : St → Prop} (hf : PureFn P G f args res) (ha : argsOkF σ (evalL σ c.args.toList) args) (h2 : AOps P G ro N ops rest σ' Q)
    (ho : o.op = .call c := by rfl) (hc : c.callee = .value (.func f) := by rfl) (hcal : callable P f = true := by kernel_rfl) (hg : ∀ {K : St → Prop}, OpT P G ro N o σ K → vcOpU P G ro N (dsts ops) o σ K := by (intro K k; simp (disch := omega) only [go_sem, ↓reduceIte]; exact k)) (hd : dstOk N o.dst := by (simp only [go_sem, ↓reduceIte]; done))
    (hp : σ.put o.dst res = σ' := by (simp only [go_sem, ↓reduceIte]; rfl)) (hr : dOnly res := by (simp only [go_sem]; done)) : AOps P G ro N ops (o :: rest) σ Q :=
  AOps.consU fun _ hK => hg (OpT.callF ho hc hcal hf ha hd (hp ▸ hK _ h2) hr)
theorem AOpsB.pre1 {l l1 l2 : List Oper} {Q : St → Prop} (n : Nat) (h1 : AOps P G B.ro N ops l1 σ (fun τ => AOpsB B G N ops l2 τ Q))
    (hl1 : l.take n = l1 := by (simp only [List.take_succ_cons, List.take_zero]; rfl)) (hl2 : l.drop n = l2 := by (simp only [List.drop_succ_cons, List.drop_zero]; rfl)) : AOpsB B G N ops l σ Q := by
  subst hl1 hl2; exact AOpsB.pre n _ h1 fun _ h => h
end
inductive All2 {α β : Type} (p : α → β → Prop) : List α → List β → Prop
  | nil : All2 p [] []
  | cons {a : α} {b : β} {l : List α} {m : List β} (h : p a b) (t : All2 p l m) : All2 p (a :: l) (b :: m)
theorem shp_lenc {α : Type} {f : α → PD} {k : Nat} {p : α → α → Prop} (h : ∀ a y, shp (f a) y → ∃ b, y = f b ∧ p a b) {l : List α} {x : PD} (hx : shp (.imm k (lenc f l)) x) : ∃ m, x = .imm k (lenc f m) ∧ All2 p l m := by
  simp only [shp] at hx
  obtain ⟨els, rfl, hs⟩ := hx
  have key : ∀ (l : List α) (els : List PD), shpL (lenc f l) els → ∃ m, els = lenc f m ∧ All2 p l m := by
    intro l
    induction l with
    | nil => intro els h; simp only [lenc, List.map_nil, shpL] at h; subst h; exact ⟨[], rfl, .nil⟩
    | cons a l ih =>
      intro els hs
      simp only [lenc, List.map_cons, shpL] at hs
      obtain ⟨y, t, rfl, h1, h2⟩ := hs
      obtain ⟨b, rfl, hb⟩ := h a y h1
      obtain ⟨m, rfl, hm⟩ := ih t h2
      exact ⟨b :: m, rfl, .cons hb hm⟩
  obtain ⟨m, rfl, hm⟩ := key l els hs
  exact ⟨m, rfl, hm⟩
end Go.Pv

namespace Go.Pv
noncomputable def mBests_l1 (n1 : Int) (from1 : Int) (to1 : Int) (r3 : (Ratio × (List Int) × Int)) : ((List Offer) × Int) → Option (((List Offer) × Int) ⊕ ((List Offer) ⊕ Bool)) := fun (own2, turn1) =>
 cond (decide (turn1 < 2))
  (((
   (m_rate_Best n1 own2 from1 to1).bind fun r4 =>
   ((cond ((!((r4.1.Num == r3.1.Num) && (r4.1.Den == r3.1.Den))) || (decide (¬r4.2.2 = r3.2.2)))
    (some true)
    (
     (m_cocketlaw01_same r4.2.1 r3.2.1).bind fun r5 =>
     some (!r5)
    )
   ) : Option Bool).bind fun b1 =>
   cond b1
    (some (.inr false))
    (guardO (r4.2.1.length ≤ 1000000) <|
    some (.inl ()))
   : Option (Unit ⊕ Bool)).bind fun o_17 => match o_17 with
    | (.inl _) => some (.inl (own2, (IntKind.i64.wrap (turn1 + 1))))
    | (.inr y1) => some (.inr (.inr y1))
  ))
  (some (.inr (.inl own2)))
noncomputable def mBests (n1 : Int) (l1 : (List Offer)) (from1 : Int) (to1 : Int) : Option Bool :=
 (m_cocketlaw01_few l1).bind fun r1 =>
 cond (!r1)
  ((m_cocketlaw01_alive).bind fun r2 => some r2)
  (
  guardO (0 + l1.length ≤ 4294967296) <|
  (m_cocketref01_Best n1 l1 from1 to1).bind fun r3 =>
  ((
   (iter (mBests_l1 n1 from1 to1 r3) (l1, 0)).bind fun x_13 => match x_13 with
     | (.inl y2) => some (.inl y2)
     | (.inr y3) => some (.inr y3)
   )
   : Option ((List Offer) ⊕ Bool)).bind fun o_7 => match o_7 with
    | (.inl own1) =>
      (m_cocketlaw01_offers own1 l1).bind fun r6 =>
      ((cond r6 ((m_cocketlaw01_alive).bind fun r7 => some r7) (some false)) : Option Bool).bind fun b2 => some b2
    | (.inr y4) => some y4
  )
end Go.Pv
namespace Go.Pv.Tryd
open Go.Proofs Go.Pv
theorem shp_Int (a : Int) (y : PD) (h : shp (PD.int .i64 a) y) : ∃ b, y = PD.int .i64 b ∧ True := by
  simp only [shp] at h
  obtain ⟨n, rfl⟩ := h
  exact ⟨n, rfl, trivial⟩
theorem f2_len {α β : Type} {p : α → β → Prop} {l : List α} {m : List β} (h : All2 p l m) : l.length = m.length := by induction h <;> simp_all
theorem sizG (g : Nat) (z : PD) (h : (g, z) ∈ G) : sizD (fun k => k != 1) z = true := by
  simp only [G, List.mem_cons, List.not_mem_nil, or_false, Prod.mk.injEq] at h
  obtain ⟨_, rfl⟩ := h
  rfl
theorem noG : noRefG G := by
  intro g x h
  simp only [G, List.mem_cons, List.not_mem_nil, or_false, Prod.mk.injEq] at h
  obtain ⟨_, rfl⟩ := h
  rfl
theorem sizOffers (l : List Offer) : sizD (fun k => k != 1) (.imm 4 (lenc Offer.pd l)) = true := siz_imm rfl (fun _ => rfl) l
theorem sizInts (l : List Int) : sizD (fun k => !(k != 1)) (.imm 1 (lenc (PD.int .i64) l)) = true := siz_imm rfl (fun _ => rfl) l
set_option maxHeartbeats 8000000 in
theorem bests_ok (n1 : Int) (l1 : (List Offer)) (from1 : Int) (to1 : Int) (r : Bool) (h : mBests n1 l1 from1 to1 = some r) : PureFn Tryd.prog G 3 [.d (.int .i64 n1), .d (.imm 4 (lenc Offer.pd l1)), .d (.int .i64 from1), .d (.int .i64 to1)] (.d (.bool r)) := by
 unfold mBests at h
 refine pfF rfl Tryd.func3 Tryd.ntmps3 ?_
 refine sg fun K k => ?_
 refine oo ?_
 refine AOps.nil (k _ ?_)
 refine AWp.seq fun _ K_1 => ?_
 refine sg fun K k => ?_
 refine oo ?_
 obtain ⟨r1, hx_2, h⟩ := bind_some h
 refine cl (m_cocketlaw01_few_ok l1 _ hx_2) ?_
 refine oo ?_
 refine AOps.nil (k _ ?_)
 refine cd h (fun h => ?_) (fun h => ?_)
 ·refine sg fun K k => ?_
  obtain ⟨r2, hx_4, h⟩ := bind_some h
  refine cl (m_cocketlaw01_alive_ok _ hx_4) ?_
  refine oo ?_
  refine AOps.nil (k _ ?_)
  refine AWp.ret ?_
  cases h; exact rt
 ·refine AWp.skip ?_
  refine K_1 _ ?_
  refine sg fun K k => ?_
  obtain ⟨hg_5, h⟩ := guardO_some h
  iterate 4 refine oo ?_
  refine AOps.nil (k _ ?_)
  refine sg fun K k => ?_
  iterate 4 refine oo ?_
  obtain ⟨r3, hx_6, h⟩ := bind_some h
  refine cl (m_cocketref01_Best_ok n1 l1 from1 to1 _ hx_6) ?_
  iterate 8 refine oo ?_
  refine AOps.nil (k _ ?_)
  refine jm (ι := (List Offer)) [1] [] (fun i t => (9, .d (.imm 4 (lenc Offer.pd i))) :: t) (fun i t => t) .inl h ?_ ?_
  ·intro _ hj_8 h
   refine sg fun K k => ?_
   refine oo ?_
   refine AOps.nil (k _ ?_)
   refine AWp.block ?_
   obtain ⟨x_13, hl_10, h2_11⟩ := bind_some hj_8
   refine lp (S := ((List Offer) × Int)) [0, 1, 2, 3, 10, 11, 12] [1001] (fun i t => (9, .d (.imm 4 (lenc Offer.pd i.1))) :: (13, .d (.int .i64 i.2)) :: t) (fun i t => t) hl_10 ?_ ?_; exact sc; clear hl_10
   rintro ⟨own2, turn1⟩ _ hb_12; unfold mBests_l1 at hb_12; try dsimp only at hb_12
   try dsimp only
   refine AWp.seq fun _ K_15 => ?_
   refine sg fun K k => ?_
   iterate 2 refine oo ?_
   refine AOps.nil (k _ ?_)
   refine cd hb_12 (fun hb_12 => ?_) (fun hb_12 => ?_)
   ·refine AWp.skip ?_
    refine K_15 _ ?_
    refine jm (ι := Unit) [0, 1, 2, 3, 9, 10, 11, 12, 13] [1001] (fun i t => t) (fun i t => t) .inl hb_12 ?_ ?_
    ·intro _ hj_18 hb_12
     refine AWp.block ?_
     refine sg fun K k => ?_
     iterate 4 refine oo ?_
     obtain ⟨r4, hx_19, hj_18⟩ := bind_some hj_18
     refine clFr (zs := [.agg [.int .i64 r4.1.Num, .int .i64 r4.1.Den], .imm 1 (lenc (PD.int .i64) r4.2.1), .int .i64 r4.2.2]) 1 (fun k => k != 1) sizG (m_rate_Best_ok n1 own2 from1 to1 _ hx_19) rfl (by simp only [List.all_cons, List.all_nil, bOnly, sizOffers, sizD, Bool.and_self]) (sizInts _) (fun i hi z hz => by
      match i, hz with
      | 0, hz => cases hz; rfl
      | 1, _ => exact absurd rfl hi
      | 2, hz => cases hz; rfl
      | i + 3, hz => simp at hz) (fun hh => ?_)
     iterate 8 refine oo ?_
     refine AOps.nil (k _ ?_)
     refine AWp.seq fun _ K_20 => ?_
     refine sg fun K k => ?_
     iterate 2 refine oo ?_
     refine ox ?_ (by intro K k; simp (disch := omega) only [go_sem, fsl26, ↓reduceIte]; exact k)
     refine oo ?_
     refine ct 4 [0, 1, 2, 3, 9, 10, 11, 12, 13, 15] [1001] (fun  t => (54, .d (.bool ((!((r4.1.Num == r3.1.Num) && (r4.1.Den == r3.1.Den))) || (decide (¬r4.2.2 = r3.2.2))))) :: t) ?_ ?_
     ·rcases bt (!((r4.1.Num == r3.1.Num) && (r4.1.Den == r3.1.Den))) with hg_22 | hg_22
      ·rw [hg_22]
       iterate 4 refine oo ?_
       refine AOps.nil ?_
       exact sb
      ·rw [hg_22]
       iterate 4 refine oo ?_
       refine AOps.nil ?_
       exact sb
     refine oo ?_
     obtain ⟨b1, hc_23, hj_18⟩ := bind_some hj_18
     refine ct 5 [0, 1, 2, 3, 9, 10, 11, 12, 13, 15] [1001] (fun  t => (60, .d (.bool b1)) :: t) ?_ ?_
     ·rcases bt ((!((r4.1.Num == r3.1.Num) && (r4.1.Den == r3.1.Den))) || (decide (¬r4.2.2 = r3.2.2))) with hg_25 | hg_25
      ·rw [hg_25]
       rw [hg_25, cond_true] at hc_23
       iterate 5 refine oo ?_
       refine AOps.nil ?_
       cases hc_23
       exact sb
      ·rw [hg_25]
       rw [hg_25, cond_false] at hc_23
       iterate 2 refine oo ?_
       obtain ⟨r5, hx_24, hc_23⟩ := bind_some hc_23
       refine clF (PureFn.bor noG (m_cocketlaw01_same_ok r4.2.1 r3.2.1 _ hx_24) rfl rfl (args' := [.b (.imm 1 (lenc (PD.int .i64) r4.2.1)), .d (.imm 1 (lenc (PD.int .i64) r3.2.1))]) ⟨.inr ⟨_, rfl, rfl⟩, .inl rfl, trivial⟩) ?_ ?_
       ·constructor
        ·exact .inr ⟨_, _, _, _, _, _, rfl, rfl, rfl, leD_refl _⟩
        ·constructor
         ·exact .inl rfl
         ·exact trivial
       iterate 2 refine oo ?_
       refine AOps.nil ?_
       cases hc_23
       exact sb
     refine AOps.nil (k _ ?_)
     refine cd hj_18 (fun hj_18 => ?_) (fun hj_18 => ?_)
     ·refine sg fun K k => ?_
      refine oo ?_
      refine AOps.nil (k _ ?_)
      refine AWp.ret ?_
      cases hj_18; try dsimp only at hb_12
      refine lx hb_12 fun hx => ?_; cases hx; try dsimp only at h2_11
      cases h2_11; try dsimp only at h
      cases h; exact rt
     ·refine AWp.skip ?_
      refine K_20 _ ?_
      obtain ⟨hlen, hj_18⟩ := guardO_some hj_18
      refine AWp.apart (r := 15) [0, 1, 2, 3, 9, 10, 11, 12, 13] (fun e => e = .normal) rfl rfl rfl (by decide) rfl (fun B val hro hB => ?_) (fun e he => by subst he; exact ln hj_18 sb)
      clear hj_18 hb_12 h hj_8 h2_11 k K_20 K_15 K_1
      refine AWpB.seq (fun σ => σ = ⟨[(15, .d (.imm 1 (lenc (PD.int .i64) r4.2.1))), (0, .val (val 0)), (1, .val (val 1)), (2, .val (val 2)), (3, .val (val 3)), (9, .val (val 9)), (10, .val (val 10)), (11, .val (val 11)), (12, .val (val 12)), (13, .val (val 13)), (17, .d (.int .i64 0))], [], [], some (0, [], [.nilptr], true)⟩) (AWpB.of (AWp.reg ?_)) ?_
      ·refine oo ?_
       exact AOps.nil rfl
      rintro _ rfl
      refine AWpB.block ?_
      refine AWpB.loopI (ι := Int × List Int) (fun i => ⟨[(15, .d (.imm 1 (lenc (PD.int .i64) i.2))), (0, .val (val 0)), (1, .val (val 1)), (2, .val (val 2)), (3, .val (val 3)), (9, .val (val 9)), (10, .val (val 10)), (11, .val (val 11)), (12, .val (val 12)), (13, .val (val 13)), (17, .d (.int .i64 i.1))], [], [], some (0, [], [.nilptr], true)⟩) (fun i => 0 ≤ i.1 ∧ i.1 ≤ i.2.length ∧ i.2.length ≤ 1000000) (fun i => (2000000 - i.1).toNat) (0, r4.2.1) ⟨Int.le_refl 0, by simp, hlen⟩ Sub.refl ?_
      rintro ⟨i, l⟩ ⟨hi0, hi1, hl⟩
      dsimp only at hi0 hi1 hl ⊢
      refine AWpB.seq (fun σ => i < l.length ∧ Sub [] 76 σ ⟨[(15, .d (.imm 1 (lenc (PD.int .i64) l))), (0, .val (val 0)), (1, .val (val 1)), (2, .val (val 2)), (3, .val (val 3)), (9, .val (val 9)), (10, .val (val 10)), (11, .val (val 11)), (12, .val (val 12)), (13, .val (val 13)), (17, .d (.int .i64 i))], [], [], some (0, [], [.nilptr], true)⟩) (AWpB.of ?_) ?_
      ·refine sg fun K k => ?_
       iterate 4 refine oo ?_
       refine AOps.nil (k _ ?_)
       refine AWp.cond (b := decide (i < l.length)) rfl (fun hb => ?_) (fun hb => ?_)
       ·exact AWp.skip ⟨by simpa using hb, sb⟩
       ·refine AWp.exit ?_
        simp only [Post.then, Post.inBlock, ↓reduceIte]
        refine ⟨trivial, trivial, trivial, fun k hk => ?_⟩
        simp only [List.mem_cons, List.not_mem_nil, or_false] at hk
        rcases hk with rfl | rfl | rfl | rfl | rfl | rfl | rfl | rfl | rfl <;> rfl
      rintro _ ⟨hlt, hs⟩
      refine AWpB.sub hs ?_
      refine AWpB.seq (fun σ => ∃ m : List Int, m.length = l.length ∧ Sub [] 76 σ ⟨[(15, .d (.imm 1 (lenc (PD.int .i64) m))), (0, .val (val 0)), (1, .val (val 1)), (2, .val (val 2)), (3, .val (val 3)), (9, .val (val 9)), (10, .val (val 10)), (11, .val (val 11)), (12, .val (val 12)), (13, .val (val 13)), (17, .d (.int .i64 i))], [], [], some (0, [], [.nilptr], true)⟩) ?_ ?_
      rotate_left
      ·rintro _ ⟨m, hml, hs⟩
       refine AWpB.sub hs (AWpB.of (AWp.reg ?_))
       iterate 3 refine oo ?_
       have hw : IntKind.i64.wrap (i + 1) = i + 1 := wrap_i64_eq ⟨by omega, by omega⟩
       refine AOps.nil ⟨(i + 1, m), ⟨by dsimp only; omega, by dsimp only; omega, by dsimp only; omega⟩, by dsimp only; omega, ?_⟩
       rw [hw]
       exact sb
      refine AWpB.block ?_
      refine AWpB.reg ?_
      refine AOpsB.pre1 3 ?_
      iterate 3 refine oo ?_
      refine AOps.nil ?_
      obtain ⟨b, hb⟩ : ∃ b, l[i.toNat]? = some b := ⟨_, List.getElem?_eq_getElem (by omega)⟩
      refine AOpsB.last rfl (storeD (n0 := b) hB rfl ty3 (by kernel_rfl) rfl rfl (by simp only [cellD, lenc, List.getElem?_map, hb, Option.map_some]; rfl) (by decide) rfl rfl rfl rfl trivial fun x' hx' => ?_)
      obtain ⟨m, rfl, hall⟩ := shp_lenc shp_Int hx'
      exact ⟨m, (f2_len hall).symm, sb⟩
    ·rintro _ hb_12; dsimp only at hb_12 ⊢
     refine AWp.reg ?_
     iterate 3 refine oo ?_
     refine AOps.nil ?_
     exact ln hb_12 sb
   ·refine AWp.exit ?_
    refine lx hb_12 fun hx => ?_; cases hx; try dsimp only at h2_11
    exact ln h2_11 sb
  ·rintro own1 h; dsimp only at h ⊢
   refine sg fun K k => ?_
   iterate 2 refine oo ?_
   obtain ⟨r6, hx_40, h⟩ := bind_some h
   refine cl (m_cocketlaw01_offers_ok own1 l1 _ hx_40) ?_
   refine oo ?_
   obtain ⟨b2, hc_41, h⟩ := bind_some h
   refine ct 2 [] [] (fun  t => (75, .d (.bool b2)) :: t) ?_ ?_
   ·rcases bt r6 with hg_43 | hg_43
    ·rw [hg_43]
     rw [hg_43, cond_true] at hc_41
     obtain ⟨r7, hx_42, hc_41⟩ := bind_some hc_41
     refine cl (m_cocketlaw01_alive_ok _ hx_42) ?_
     refine oo ?_
     refine AOps.nil ?_
     cases hc_41
     exact sb
    ·rw [hg_43]
     rw [hg_43, cond_false] at hc_41
     iterate 2 refine oo ?_
     refine AOps.nil ?_
     cases hc_41
     exact sb
   refine oo ?_
   refine AOps.nil (k _ ?_)
   refine AWp.ret ?_
   cases h; exact rt
end Go.Pv.Tryd

namespace Go.Pv
theorem offers_loop (l : List Offer) (h60 : l.length ≤ 60) : ∀ (n i : Nat), n = l.length - i → iter (m_cocketlaw01_offers_l1 l l) (i : Int) = some (.inl ())
  | 0, i, hn => by
    refine iter_done ?_
    unfold m_cocketlaw01_offers_l1
    rw [decide_eq_false (by omega)]; rfl
  | n + 1, i, hn => by
    have hi : i < l.length := by omega
    have h2 : idx l (i : Int) = some l[i] := by unfold idx; simp [hi]
    have ih := offers_loop l h60 n (i + 1) (by omega)
    refine iter_step ?_ ih
    unfold m_cocketlaw01_offers_l1
    rw [decide_eq_true (by omega), cond_true, h2]
    simp only [Option.bind_some, beq_self_eq_true, Bool.and_self, Bool.not_true, cond_false]
    rw [wrap_i64_eq (by omega)]; rfl
theorem offers_self {l : List Offer} (h60 : l.length ≤ 60) : m_cocketlaw01_offers l l = some true := by
  unfold m_cocketlaw01_offers
  have h := offers_loop l h60 l.length 0 (by omega)
  rw [show ((0 : Nat) : Int) = 0 from rfl] at h
  simp only [not_true_eq_false, decide_false, cond_false]
  rw [h]; rfl
theorem RateBests_law (n : Int) (l : List Offer) (frm to : Int) : mBests n l frm to = some true := by
  unfold mBests
  rw [m_cocketlaw01_few]
  simp only [Option.bind_some]
  rcases Bool.eq_false_or_eq_true (!decide ((l.length : Int) ≤ 60)) with h | h
  · rw [h, alive_true]; rfl
  · have h60 : l.length ≤ 60 := by
      simp only [Bool.not_eq_false', decide_eq_true_eq] at h; omega
    obtain ⟨r, h1, h2, h3, _⟩ := Best_same n l frm to
    have step : ∀ t : Int, 0 ≤ t → t < 2 → mBests_l1 n frm to r (l, t) = some (.inl (l, t + 1)) := fun t ht0 ht => by
      unfold mBests_l1
      dsimp only
      rw [decide_eq_true ht, cond_true, h1]
      simp only [Option.bind_some, beq_self_eq_true, Bool.and_self, Bool.not_true, not_true_eq_false, decide_false, Bool.or_self, cond_false, same_eq r.2.1 r.2.1 (by omega), decide_true]
      unfold guardO
      rw [if_pos (by omega), wrap_i64_eq (by omega)]; rfl
    have last : mBests_l1 n frm to r (l, 2) = some (.inr (.inl l)) := by
      unfold mBests_l1
      dsimp only
      rw [decide_eq_false (by omega)]; rfl
    have hit : iter (mBests_l1 n frm to r) (l, 0) = some (.inl l) := iter_step (step 0 (by omega) (by omega)) (iter_step (step (0 + 1) (by omega) (by omega)) (iter_done last))
    rw [h, cond_false]
    unfold guardO
    rw [if_pos (by omega), h2]
    simp only [Option.bind_some, hit, offers_self h60, alive_true, cond_true]
end Go.Pv

namespace Go.Pv.Tryd
open Go Go.Proofs Go.Pv Go.ChangeShapes Go.WideShapes Go.ChangeAt Go.RowKit Go.Proofs.YtmnemlihimnofaaDoor
set_option maxRecDepth 100000 in
theorem bests_lifted (os : Os) (started : os.Started) (H : Type) (enc : TypeId × Value → H) :
    ReturnsInHanded {} Tryd.checked os 3 .any (fun w args => (Rows.rateBestsSpec.pre enc Tryd.prog Tryd.f3 [] false w args ∧ laidMetH Tryd.prog laid1 w) ∧ sizedMet enc Tryd.prog Tryd.f3 (OpenSpec.ofChange Rows.rateBestsSpec) false w args)
      (Rows.rateBestsSpec.post enc Tryd.prog Tryd.f3 false true false false) := by
  refine returnsInHanded_of_change_and (C := Tryd.checked) (X := fun w _ => laidMetH Tryd.prog laid1 w) (fun _ _ _ hh h => h.of_heap hh) own started (by kernel_rfl) Tryd.func3
    (ChangeSpec.witness_shaped (enc := enc) (C := Tryd.checked) (os := os) (X := fun w _ => laidMetH Tryd.prog laid1 w) false (World.doorLaid Tryd.prog 400 os) #[.int .i64 0, .slice none 0 0, .int .i64 0, .int .i64 0] 8 rfl (World.shaped_of_RefB (by kernel_rfl) (by kernel_rfl)) (by kernel_rfl) (by kernel_rfl) (by kernel_rfl) (door_met os _)) ?_
  intro W base args ds gs before hval0 hW _ _ hL _
  have hval : ∀ (j : Nat) t v, Tryd.f3.params[j]? = some t → args[j]? = some v → Value.okWide Tryd.prog W .any base t v := hval0
  have hW' := hW
  obtain ⟨p, q, hA0, hV, rfl, hfz, hnd⟩ := hW
  have hA : DataW.TrodAll enc Tryd.prog W 0 (fun _ => true) true Tryd.f3.params.toList args.toList ds p := hA0
  obtain ⟨rfl, rfl⟩ := trodVars_none hV
  rw [Tryd.params3] at hA hval
  obtain ⟨v0, vs0, d0, ds0, p0, q0, ha, rfl, rfl, t0, hA⟩ := trodAll_cons hA
  obtain ⟨v1, vs1, d1, ds1, p1, q1, rfl, rfl, rfl, t1, hA⟩ := trodAll_cons hA
  obtain ⟨v2, vs2, d2, ds2, p2, q2, rfl, rfl, rfl, t2, hA⟩ := trodAll_cons hA
  obtain ⟨v3, vs3, d3, ds3, p3, q3, rfl, rfl, rfl, t3, hA⟩ := trodAll_cons hA
  obtain ⟨rfl, rfl, rfl⟩ := trodAll_nil hA
  have hargs : args = #[v0, v1, v2, v3] := Array.toList_inj.1 ha
  subst hargs
  obtain ⟨x0, r0⟩ := rep_arg_int Tryd.underlying3 (hval 0 3 v0 rfl rfl)
  obtain ⟨x1, r1⟩ := rep_arg_slice Tryd.underlying22 opens_Offer (by decide) (hval 1 22 v1 rfl rfl) t1 (fun b o h => hfz b o (by simp [h]))
  obtain ⟨x2, r2⟩ := rep_arg_int Tryd.underlying3 (hval 2 3 v2 rfl rfl)
  obtain ⟨x3, r3⟩ := rep_arg_int Tryd.underlying3 (hval 3 3 v3 rfl rfl)
  have hw := calls_of_pure (args := [.int .i64 x0, .imm 4 (lenc Offer.pd x1), .int .i64 x2, .int .i64 x3]) (vs := [v0, v1, v2, v3]) (bests_ok x0 x1 x2 x3 true (RateBests_law x0 x1 x2 x3)) rfl (fun i hi => by
    match i, hi with
    | 0, _ => exact r0
    | 1, _ => exact r1
    | 2, _ => exact r2
    | 3, _ => exact r3) (glob_of_laid hL)
  refine hw.mono fun e W' ⟨he, hs⟩ => ?_
  subst he
  exact ⟨_, rfl, law_post rfl hW' hs rfl (t := 4) (by rfl) Tryd.underlying4 laidOut (by kernel_rfl)⟩
theorem bests_said : Rows.RateBestsSaid :=
  OpenClaim.holds_of_wide 3 Tryd.f3 rfl rfl rfl rfl rfl rfl rfl ⟨rfl, rfl, rfl, rfl, rfl⟩ rfl rfl rfl rfl rfl (by kernel_rfl) Tryd.func3 (by kernel_rfl)
    (of_decide_eq_true (by kernel_rfl)) (by unfold Func.isWrapper; first | (rw [if_pos (by decide +kernel)]; kernel_rfl) | (rw [if_neg (by decide +kernel)]; exact ⟨rfl, rfl⟩))
    (fun os started H enc _ => bests_lifted os started H enc)
theorem bests_card : Rows.RateBestsCardSaid :=
  Claim7.holds_tied_plain_at .later [] [.data] true Rows.rateBestsCard.stood.harness false
    bests_said (fun _ h => by cases h) (by kernel_rfl) (fun _ h => by cases h) rateBests_row_tie rfl ⟨rfl, rfl⟩ (by kernel_rfl) rfl
    (fun f fn hf hfn => by
      obtain rfl : f = 3 := Option.some.inj ((show Tryd.prog.funcNamed Rows.rateBestsRow.func = some 3 by kernel_rfl).symm.trans hf) |>.symm
      obtain rfl : fn = Tryd.f3 := (Option.some.inj (Tryd.func3.symm.trans hfn)).symm
      exact ⟨by kernel_rfl, fun j t ht => by
        rw [Tryd.params3] at ht
        have hm : t ∈ [3, 22, 3, 3] := by simpa using Array.mem_of_getElem? ht
        have hall : ([3, 22, 3, 3].all fun u => !Tryd.prog.wantsStandIn u) = true := by kernel_rfl
        exact (show Tryd.prog.wantsStandIn t = false by simpa using List.all_eq_true.1 hall t hm)⟩)
    (by kernel_rfl)
end Go.Pv.Tryd

namespace Go.Proofs.YtmnemlihimnofaaDoor

theorem bests_card : Rows.RateBestsCardSaid := Go.Pv.Tryd.bests_card

#print axioms bests_card

end Go.Proofs.YtmnemlihimnofaaDoor
