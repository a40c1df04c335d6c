/- RateRounding answers true for every input, as its tied card says: under the conditions of the card (Rows, Cards, Tie), no more. Part 5 of 5: by one AI agent and its programs; no person has read it. -/
import Derived.Test.YtmnemlihimnofaaDoorRateRoundingA
import Derived.Test.YtmnemlihimnofaaDoorRateRoundingB
import Derived.Test.YtmnemlihimnofaaDoorRateRoundingC
import Derived.Test.YtmnemlihimnofaaDoorRateRoundingD
import Derived.Shelf.Sort.Plain
import Derived.Shelf.Slices.CompactI
import Derived.Shelf.Slices.In.SortNone
import Derived.Test.YtmnemlihimnofaaDoorProg
import Derived.Test.YtmnemlihimnofaaDoorCards
import Derived.Test.YtmnemlihimnofaaDoorTie
import Derived.SevenTiedAt
set_option linter.unusedSimpArgs false
set_option linter.unusedVariables false
set_option linter.all false

namespace Go.Pv.Tryd
open Go.Proofs Go.Pv
theorem m_rate_market_follow_ok (m1 : Market) (list1 : (List Int)) (r : (Ratio × (List Int) × Bool)) (h : m_rate_market_follow m1 list1 = some r) : NewFn Tryd.prog G 64 [.d (.agg [(.int .i64 m1.n), (.imm 4 (lenc Offer.pd m1.offers))]), .d (.imm 1 (lenc (PD.int .i64) list1))] (fun q => .tuple [.d (.agg [(.int .i64 r.1.Num), (.int .i64 r.1.Den)]), .slc q 0 r.2.1.length, .d (.bool r.2.2)]) 3 1 (lenc (PD.int .i64) r.2.1) := by
 unfold m_rate_market_follow at h
 refine NewFn.pf Tryd.func64 Tryd.ntmps64 ?_
 refine sg fun K k => ?_
 iterate 4 refine oo ?_
 refine AOps.nil (k _ ?_)
 refine AWp.sub (Sub.void 5 3 1 1002 (by rfl) (by rfl) (by decide) (by decide)) ?_
 simp only [eput, hput, reduceCtorEq, ↓reduceIte, Nat.reduceAdd, Nat.reduceMul, Nat.reduceLT, Nat.reduceLeDiff, Nat.reduceEqDiff, Nat.reduceBEq, Int.reduceToNat]
 refine sg fun K k => ?_
 iterate 2 refine oo ?_
 refine AOps.nil (k _ ?_)
 refine jm (ι := (Ratio × (List Int))) [] [] (fun i t => (4, .ptr 1001 0 0) :: (5, .slc 1002 0 i.2.length) :: t) (fun i t => (1001, ⟨26, 2, [.d (.agg [(.int .i64 i.1.Num), (.int .i64 i.1.Den)])]⟩) :: (1002, ⟨3, 1, dl (lenc (PD.int .i64) i.2)⟩) :: t) .inl h ?_ ?_
 ·intro _ hj_2 h
  refine sg fun K k => ?_
  iterate 3 refine oo ?_
  refine AOps.nil (k _ ?_)
  refine AWp.block ?_
  obtain ⟨x_7, hl_4, h2_5⟩ := bind_some hj_2
  refine lp (S := (Int × Ratio × (List Int))) [1, 2, 11, 12] [1000] (fun i t => (4, .ptr 1001 0 0) :: (5, .slc 1002 0 i.2.2.length) :: (13, .d (.int .i64 i.1)) :: t) (fun i t => (1001, ⟨26, 2, [.d (.agg [(.int .i64 i.2.1.Num), (.int .i64 i.2.1.Den)])]⟩) :: (1002, ⟨3, 1, dl (lenc (PD.int .i64) i.2.2)⟩) :: t) hl_4 ?_ ?_; exact sb; clear hl_4
  rintro ⟨v1, c2, L2⟩ _ hb_6; unfold m_rate_market_follow_l1 at hb_6; try dsimp only at hb_6
  try dsimp only
  refine sg fun K k => ?_
  refine oo ?_
  refine AOps.nil (k _ ?_)
  refine AWp.seq fun _ K_9 => ?_
  refine cd hb_6 (fun hb_6 => ?_) (fun hb_6 => ?_)
  ·refine AWp.skip ?_
   refine K_9 _ ?_
   refine jm (ι := (Ratio × (List Int))) [1, 2, 11, 12, 13] [1000] (fun i t => (4, .ptr 1001 0 0) :: (5, .slc 1002 0 i.2.length) :: t) (fun i t => (1001, ⟨26, 2, [.d (.agg [(.int .i64 i.1.Num), (.int .i64 i.1.Den)])]⟩) :: (1002, ⟨3, 1, dl (lenc (PD.int .i64) i.2)⟩) :: t) .inl hb_6 ?_ ?_
   ·intro _ hj_12 hb_6
    refine AWp.block ?_
    refine sg fun K k => ?_
    obtain ⟨e1, ⟨f_13, f_14, f_15, f_16⟩, hj_12⟩ := idx_bind hj_12
    iterate 2 refine oo ?_
    refine oo ?_ (by intro K k; simp (disch := omega) only [go_sem, f_15, ↓reduceIte]; exact k)
    iterate 2 refine oo ?_
    refine AOps.nil (k _ ?_)
    refine AWp.seq fun _ K_17 => ?_
    refine sd mo fun K k => ?_
    iterate 3 refine dd ?_
    rcases bt (decide (e1 < 0)) with hg_18 | hg_18
    ·rw [hg_18]
     rw [hg_18, cond_true] at hj_12
     iterate 29 refine dd ?_
     refine DOps.nil (by kernel_rfl) (k _ ?_)
     refine cdt ?_
     refine sg fun K k => ?_
     iterate 4 refine oo ?_
     refine AOps.nil (k _ ?_)
     refine AWp.sub (Sub.void 5 3 1 1003 (by rfl) (by rfl) (by decide) (by decide)) ?_
     simp only [eput, hput, reduceCtorEq, ↓reduceIte, Nat.reduceAdd, Nat.reduceMul, Nat.reduceLT, Nat.reduceLeDiff, Nat.reduceEqDiff, Nat.reduceBEq, Int.reduceToNat]
     refine AWp.ret ?_
     cases hj_12; try dsimp only at hb_6
     refine lx hb_6 fun hx => ?_; cases hx; try dsimp only at h2_5
     cases h2_5; try dsimp only at h
     cases h; exact rtNew
    ·rw [hg_18]
     rw [hg_18, cond_false] at hj_12
     iterate 7 refine dd ?_
     rcases bt (decide ((m1.offers.length : Int) ≤ e1)) with hg_32 | hg_32
     ·rw [hg_32]
      rw [hg_32, cond_true] at hj_12
      iterate 22 refine dd ?_
      refine DOps.nil (by kernel_rfl) (k _ ?_)
      refine cdt ?_
      refine sg fun K k => ?_
      iterate 4 refine oo ?_
      refine AOps.nil (k _ ?_)
      refine AWp.sub (Sub.void 5 3 1 1003 (by rfl) (by rfl) (by decide) (by decide)) ?_
      simp only [eput, hput, reduceCtorEq, ↓reduceIte, Nat.reduceAdd, Nat.reduceMul, Nat.reduceLT, Nat.reduceLeDiff, Nat.reduceEqDiff, Nat.reduceBEq, Int.reduceToNat]
      refine AWp.ret ?_
      cases hj_12; try dsimp only at hb_6
      refine lx hb_6 fun hx => ?_; cases hx; try dsimp only at h2_5
      cases h2_5; try dsimp only at h
      cases h; exact rtNew
     ·rw [hg_32]
      rw [hg_32, cond_false] at hj_12
      iterate 3 refine dd ?_
      rcases bt (decide (0 < v1)) with hg_46 | hg_46
      ·rw [hg_46]
       rw [hg_46, cond_true] at hj_12
       obtain ⟨e4, ⟨f_47, f_48, f_49, f_50⟩, hj_12⟩ := idx_bind hj_12
       iterate 5 refine dd ?_
       refine dd ?_ (by intro K k; simp (disch := omega) only [go_sem, f_49, ↓reduceIte]; exact k)
       obtain ⟨e5, ⟨f_51, f_52, f_53, f_54⟩, hj_12⟩ := idx_bind hj_12
       iterate 6 refine dd ?_
       refine dd ?_ (by intro K k; simp (disch := omega) only [go_sem, f_53, ↓reduceIte]; exact k)
       obtain ⟨e6, ⟨f_55, f_56, f_57, f_58⟩, hj_12⟩ := idx_bind hj_12
       iterate 2 refine dd ?_
       refine dd ?_ (by intro K k; simp (disch := omega) only [go_sem, f_57, ↓reduceIte]; exact k)
       iterate 3 refine dd ?_
       refine DOps.nil (by kernel_rfl) (k _ ?_)
       refine cd hj_12 (fun hj_12 => ?_) (fun hj_12 => ?_)
       ·refine sg fun K k => ?_
        iterate 4 refine oo ?_
        refine AOps.nil (k _ ?_)
        refine AWp.sub (Sub.void 5 3 1 1003 (by rfl) (by rfl) (by decide) (by decide)) ?_
        simp only [eput, hput, reduceCtorEq, ↓reduceIte, Nat.reduceAdd, Nat.reduceMul, Nat.reduceLT, Nat.reduceLeDiff, Nat.reduceEqDiff, Nat.reduceBEq, Int.reduceToNat]
        refine AWp.ret ?_
        cases hj_12; try dsimp only at hb_6
        refine lx hb_6 fun hx => ?_; cases hx; try dsimp only at h2_5
        cases h2_5; try dsimp only at h
        cases h; exact rtNew
       ·refine AWp.skip ?_
        refine K_17 _ ?_
        refine sg fun K k => ?_
        obtain ⟨e7, ⟨f_60, f_61, f_62, f_63⟩, hj_12⟩ := idx_bind hj_12
        iterate 4 refine oo ?_
        refine oo ?_ (by intro K k; simp (disch := omega) only [go_sem, f_62, ↓reduceIte]; exact k)
        iterate 2 refine oo ?_
        refine AOps.nil (k _ ?_)
        refine jn (α := (List Int)) [1, 2, 4, 7, 9, 11, 12, 13, 21, 22, 23, 24, 25, 28, 29, 30, 31, 32, 33, 34, 35, 36, 37, 38, 39, 40, 41, 42, 43, 44, 45, 46, 47, 48] [1000, 1001, 1003] (fun i t => (5, .slc 1002 0 i.length) :: t) (fun i t => (1002, ⟨3, 1, dl (lenc (PD.int .i64) i)⟩) :: t) hj_12 ?_ ?_
        ·intro _ hj_65
         refine sg fun K k => ?_
         iterate 2 refine oo ?_
         refine AOps.nil (k _ ?_)
         refine cd hj_65 (fun hj_65 => ?_) (fun hj_65 => ?_)
         ·refine AWp.reg ?_
          iterate 3 refine oo ?_
          refine ol ?_
          obtain ⟨hg_67, hj_65⟩ := guardO_some hj_65
          iterate 2 refine oo ?_
          refine AOps.nil ?_
          cases hj_65; exact sb
         ·refine AWp.skip ?_
          cases hj_65; exact sb
        ·rintro L6 hj_12; dsimp only at hj_12 ⊢
         refine sg fun K k => ?_
         iterate 3 refine oo ?_
         refine ol ?_
         obtain ⟨hg_68, hj_12⟩ := guardO_some hj_12
         iterate 2 refine oo ?_
         refine AOps.nil (k _ ?_)
         refine sg fun K k => ?_
         iterate 4 refine oo ?_
         refine AOps.nil (k _ ?_)
         refine cd hj_12 (fun hj_12 => ?_) (fun hj_12 => ?_)
         ·refine AWp.draw mo [] trivial ?_
          iterate 5 refine dd ?_
          obtain ⟨r5, hx_70, hj_12⟩ := bind_some hj_12
          refine dcl (m_rate_ratio_ok e7.Num e7.Den _ hx_70) ?_
          obtain ⟨r6, hx_71, hj_12⟩ := bind_some hj_12
          refine dcl (m_rate_times_ok c2 r5 _ hx_71) ?_
          refine dd ?_
          refine DOps.nil (by kernel_rfl) ?_
          exact ln hj_12 sb
         ·refine AWp.skip ?_
          exact ln hj_12 sb
      ·rw [hg_46]
       rw [hg_46, cond_false] at hj_12
       iterate 19 refine dd ?_
       refine DOps.nil (by kernel_rfl) (k _ ?_)
       refine cdf ?_
       refine AWp.skip ?_
       refine K_17 _ ?_
       refine sg fun K k => ?_
       obtain ⟨e8, ⟨f_73, f_74, f_75, f_76⟩, hj_12⟩ := idx_bind hj_12
       iterate 4 refine oo ?_
       refine oo ?_ (by intro K k; simp (disch := omega) only [go_sem, f_75, ↓reduceIte]; exact k)
       iterate 2 refine oo ?_
       refine AOps.nil (k _ ?_)
       refine jn (α := (List Int)) [1, 2, 4, 7, 9, 11, 12, 13, 21, 22, 23, 24, 25, 28, 29, 30, 31, 32, 33, 34, 35, 36, 37, 38, 39, 40, 41, 42, 43, 44, 45, 46, 47, 48] [1000, 1001, 1003] (fun i t => (5, .slc 1002 0 i.length) :: t) (fun i t => (1002, ⟨3, 1, dl (lenc (PD.int .i64) i)⟩) :: t) hj_12 ?_ ?_
       ·intro _ hj_78
        refine sg fun K k => ?_
        iterate 2 refine oo ?_
        refine AOps.nil (k _ ?_)
        refine cd hj_78 (fun hj_78 => ?_) (fun hj_78 => ?_)
        ·refine AWp.reg ?_
         iterate 3 refine oo ?_
         refine ol ?_
         obtain ⟨hg_80, hj_78⟩ := guardO_some hj_78
         iterate 2 refine oo ?_
         refine AOps.nil ?_
         cases hj_78; exact sb
        ·refine AWp.skip ?_
         cases hj_78; exact sb
       ·rintro L7 hj_12; dsimp only at hj_12 ⊢
        refine sg fun K k => ?_
        iterate 3 refine oo ?_
        refine ol ?_
        obtain ⟨hg_81, hj_12⟩ := guardO_some hj_12
        iterate 2 refine oo ?_
        refine AOps.nil (k _ ?_)
        refine sg fun K k => ?_
        iterate 4 refine oo ?_
        refine AOps.nil (k _ ?_)
        refine cd hj_12 (fun hj_12 => ?_) (fun hj_12 => ?_)
        ·refine AWp.draw mo [] trivial ?_
         iterate 5 refine dd ?_
         obtain ⟨r7, hx_83, hj_12⟩ := bind_some hj_12
         refine dcl (m_rate_ratio_ok e8.Num e8.Den _ hx_83) ?_
         obtain ⟨r8, hx_84, hj_12⟩ := bind_some hj_12
         refine dcl (m_rate_times_ok c2 r7 _ hx_84) ?_
         refine dd ?_
         refine DOps.nil (by kernel_rfl) ?_
         exact ln hj_12 sb
        ·refine AWp.skip ?_
         exact ln hj_12 sb
   ·rintro ⟨c3, L3⟩ hb_6; dsimp only at hb_6 ⊢
    refine AWp.reg ?_
    iterate 2 refine oo ?_
    refine AOps.nil ?_
    exact ln hb_6 sb
  ·refine AWp.exit ?_
   refine lx hb_6 fun hx => ?_; cases hx; try dsimp only at h2_5
   exact ln h2_5 sb
 ·rintro ⟨c1, L1⟩ h; dsimp only at h ⊢
  refine sg fun K k => ?_
  iterate 5 refine oo ?_
  refine AOps.nil (k _ ?_)
  refine AWp.ret ?_
  cases h; exact rtNew
end Go.Pv.Tryd

namespace Go.Pv.Tryd
open Go.Proofs Go.Pv
theorem m_rate_Change_ok (n1 : Int) (offers1 : (List Offer)) (list1 : (List Int)) (amount1 : Int) (r : (Int × Int)) (h : m_rate_Change n1 offers1 list1 amount1 = some r) : PureFn Tryd.prog G 35 [.d (.int .i64 n1), .d (.imm 4 (lenc Offer.pd offers1)), .d (.imm 1 (lenc (PD.int .i64) list1)), .d (.int .i64 amount1)] (.tuple [.d (.int .i64 r.1), .d (.int .i64 r.2)]) := by
 unfold m_rate_Change at h
 refine pf Tryd.func35 Tryd.ntmps35 ?_
 refine sg fun K k => ?_
 iterate 2 refine oo ?_
 refine AOps.nil (k _ ?_)
 refine sg fun K k => ?_
 iterate 2 refine oo ?_
 obtain ⟨r1, hx_1, h⟩ := bind_some h
 refine cl (m_rate_of_ok n1 offers1 _ hx_1) ?_
 iterate 6 refine oo ?_
 refine AOps.nil (k _ ?_)
 refine AWp.seq fun _ K_2 => ?_
 refine sg fun K k => ?_
 iterate 2 refine oo ?_
 refine AOps.nil (k _ ?_)
 refine cd h (fun h => ?_) (fun h => ?_)
 ·refine sg fun K k => ?_
  iterate 3 refine oo ?_
  refine AOps.nil (k _ ?_)
  refine AWp.ret ?_
  cases h; exact rt
 ·refine AWp.skip ?_
  refine K_2 _ ?_
  refine AWp.seq fun _ K_4 => ?_
  refine sg fun K k => ?_
  iterate 4 refine oo ?_
  refine ct 3 [1, 2, 3, 10] [1000] (fun  t => (32, .d (.bool ((decide (20 < (list1.length : Int))) || (decide (amount1 < 0))))) :: t) ?_ ?_
  ·rcases bt (decide (20 < (list1.length : Int))) with hg_6 | hg_6
   ·rw [hg_6]
    iterate 3 refine oo ?_
    refine AOps.nil ?_
    exact sb
   ·rw [hg_6]
    iterate 3 refine oo ?_
    refine AOps.nil ?_
    exact sb
  refine oo ?_
  refine ct 3 [1, 2, 3, 10] [1000] (fun  t => (36, .d (.bool (((decide (20 < (list1.length : Int))) || (decide (amount1 < 0))) || (decide (1099511627776 < amount1))))) :: t) ?_ ?_
  ·rcases bt ((decide (20 < (list1.length : Int))) || (decide (amount1 < 0))) with hg_8 | hg_8
   ·rw [hg_8]
    iterate 3 refine oo ?_
    refine AOps.nil ?_
    exact sb
   ·rw [hg_8]
    iterate 3 refine oo ?_
    refine AOps.nil ?_
    exact sb
  refine AOps.nil (k _ ?_)
  refine cd h (fun h => ?_) (fun h => ?_)
  ·refine sg fun K k => ?_
   iterate 2 refine oo ?_
   refine AOps.nil (k _ ?_)
   refine AWp.ret ?_
   cases h; exact rt
  ·refine AWp.skip ?_
   refine K_4 _ ?_
   refine AWp.seq fun _ K_10 => ?_
   refine sg fun K k => ?_
   iterate 2 refine oo ?_
   obtain ⟨r2, hx_11, h⟩ := bind_some h
   refine clN 1001 (m_rate_market_follow_ok r1.1 list1 _ hx_11) ?_
   iterate 8 refine oo ?_
   refine AOps.nil (k _ ?_)
   refine sg fun K k => ?_
   iterate 2 refine oo ?_
   refine AOps.nil (k _ ?_)
   refine cd h (fun h => ?_) (fun h => ?_)
   ·refine sg fun K k => ?_
    iterate 2 refine oo ?_
    refine AOps.nil (k _ ?_)
    refine AWp.ret ?_
    cases h; exact rt
   ·refine AWp.skip ?_
    refine K_10 _ ?_
    refine jm (ι := Int) [] [] (fun i t => (3, .d (.int .i64 i)) :: t) (fun i t => t) .inl h ?_ ?_
    ·intro _ hj_14 h
     refine sg fun K k => ?_
     iterate 3 refine oo ?_
     refine AOps.nil (k _ ?_)
     refine AWp.block ?_
     obtain ⟨x_19, hl_16, h2_17⟩ := bind_some hj_14
     refine lp (S := (Int × Int)) [1, 46, 47] [] (fun i t => (3, .d (.int .i64 i.1)) :: (48, .d (.int .i64 i.2)) :: t) (fun i t => t) hl_16 ?_ ?_; exact sb; clear hl_16
     rintro ⟨amount3, v1⟩ _ hb_18; unfold m_rate_Change_l1 at hb_18; try dsimp only at hb_18
     try dsimp only
     refine sg fun K k => ?_
     refine oo ?_
     refine AOps.nil (k _ ?_)
     refine AWp.seq fun _ K_21 => ?_
     refine cd hb_18 (fun hb_18 => ?_) (fun hb_18 => ?_)
     ·refine AWp.skip ?_
      refine K_21 _ ?_
      refine AWp.seq fun _ K_23 => ?_
      refine AWp.block ?_
      refine sg fun K k => ?_
      obtain ⟨e1, ⟨f_24, f_25, f_26, f_27⟩, hb_18⟩ := idx_bind hb_18
      refine oo ?_
      refine oo ?_ (by intro K k; simp (disch := omega) only [go_sem, f_26, ↓reduceIte]; exact k)
      refine oo ?_
      refine AOps.nil (k _ ?_)
      refine sd mo fun K k => ?_
      obtain ⟨e2, ⟨f_28, f_29, f_30, f_31⟩, hb_18⟩ := idx_bind hb_18
      iterate 5 refine dd ?_
      refine dd ?_ (by intro K k; simp (disch := omega) only [go_sem, f_30, ↓reduceIte]; exact k)
      iterate 5 refine dd ?_
      refine dd ?_ (by intro K k; simp (disch := omega) only [go_sem, f_30, ↓reduceIte]; exact k)
      obtain ⟨hg_32, hb_18⟩ := guardO_some hb_18
      iterate 2 refine dd ?_
      refine DOps.nil (by kernel_rfl) (k _ ?_)
      refine sg fun K k => ?_
      iterate 2 refine oo ?_
      refine AOps.nil (k _ ?_)
      refine cd hb_18 (fun hb_18 => ?_) (fun hb_18 => ?_)
      ·refine sg fun K k => ?_
       iterate 2 refine oo ?_
       refine AOps.nil (k _ ?_)
       refine AWp.ret ?_
       refine lx hb_18 fun hx => ?_; cases hx; try dsimp only at h2_17
       cases h2_17; try dsimp only at h
       cases h; exact rt
      ·refine AWp.skip ?_
       refine K_23 _ ?_
       refine AWp.reg ?_
       iterate 2 refine oo ?_
       refine AOps.nil ?_
       exact ln hb_18 sb
     ·refine AWp.exit ?_
      refine lx hb_18 fun hx => ?_; cases hx; try dsimp only at h2_17
      exact ln h2_17 sb
    ·rintro amount2 h; dsimp only at h ⊢
     refine sg fun K k => ?_
     iterate 3 refine oo ?_
     refine AOps.nil (k _ ?_)
     refine AWp.ret ?_
     cases h; exact rt
end Go.Pv.Tryd

namespace Go.Pv.Tryd
open Go.Proofs Go.Pv
theorem m_cocketref01_trim_ok (d1 : (List Int)) (r : (List Int)) (h : m_cocketref01_trim d1 = some r) : PureFn Tryd.prog G 98 [.d (.imm 1 (lenc (PD.int .i64) d1))] (.d (.imm 1 (lenc (PD.int .i64) r))) := by
 unfold m_cocketref01_trim at h
 refine pf Tryd.func98 Tryd.ntmps98 ?_
 refine sg fun K k => ?_
 refine oo ?_
 refine AOps.nil (k _ ?_)
 refine sg fun K k => ?_
 iterate 3 refine oo ?_
 refine AOps.nil (k _ ?_)
 refine jn (α := Int) [0] [] (fun i t => (3, .d (.int .i64 i)) :: t) (fun i t => t) h ?_ ?_
 ·intro _ hj_2
  refine AWp.block ?_
  obtain ⟨x_7, hl_4, h2_5⟩ := bind_some hj_2
  refine lp (S := Int) [0] [] (fun i t => (3, .d (.int .i64 i)) :: t) (fun i t => t) hl_4 ?_ ?_; exact sb; clear hl_4
  rintro n2 _ hb_6; unfold m_cocketref01_trim_l1 at hb_6; try dsimp only at hb_6
  try dsimp only
  refine AWp.seq fun _ K_9 => ?_
  refine sg fun K k => ?_
  iterate 3 refine oo ?_
  obtain ⟨b1, hc_10, hb_6⟩ := bind_some hb_6
  refine ct 7 [0, 3] [] (fun  t => (17, .d (.bool b1)) :: t) ?_ ?_
  ·rcases bt (decide (0 < n2)) with hg_15 | hg_15
   ·rw [hg_15]
    rw [hg_15, cond_true] at hc_10
    obtain ⟨e1, ⟨f_11, f_12, f_13, f_14⟩, hc_10⟩ := idx_bind hc_10
    iterate 4 refine oo ?_
    refine oo ?_ (by intro K k; simp (disch := omega) only [go_sem, f_13, ↓reduceIte]; exact k)
    iterate 2 refine oo ?_
    refine AOps.nil ?_
    cases hc_10
    exact sb
   ·rw [hg_15]
    rw [hg_15, cond_false] at hc_10
    iterate 7 refine oo ?_
    refine AOps.nil ?_
    cases hc_10
    exact sb
  refine AOps.nil (k _ ?_)
  refine cd hb_6 (fun hb_6 => ?_) (fun hb_6 => ?_)
  ·refine AWp.skip ?_
   refine K_9 _ ?_
   refine AWp.block ?_
   refine AWp.reg ?_
   iterate 3 refine oo ?_
   refine AOps.nil ?_
   exact ln hb_6 sb
  ·refine AWp.exit ?_
   refine lx hb_6 fun hx => ?_; cases hx; try dsimp only at h2_5
   cases h2_5; exact sb
 ·rintro n1 h; dsimp only at h ⊢
  refine sg fun K k => ?_
  refine oo ?_
  refine AOps.nil (k _ ?_)
  refine AWp.sub (Sub.void 4 3 1 1000 (by rfl) (by rfl) (by decide) (by decide)) ?_
  simp only [eput, hput, reduceCtorEq, ↓reduceIte, Nat.reduceAdd, Nat.reduceMul, Nat.reduceLT, Nat.reduceLeDiff, Nat.reduceEqDiff, Nat.reduceBEq, Int.reduceToNat]
  refine jn (α := (List Int)) [] [] (fun i t => (4, .slc 1000 0 i.length) :: t) (fun i t => (1000, ⟨3, 1, dl (lenc (PD.int .i64) i)⟩) :: t) h ?_ ?_
  ·intro _ hj_18
   refine sg fun K k => ?_
   refine oo ?_
   refine AOps.nil (k _ ?_)
   refine AWp.block ?_
   obtain ⟨x_23, hl_20, h2_21⟩ := bind_some hj_18
   refine lp (S := (Int × (List Int))) [0, 3] [] (fun i t => (4, .slc 1000 0 i.2.length) :: (5, .d (.int .i64 i.1)) :: t) (fun i t => (1000, ⟨3, 1, dl (lenc (PD.int .i64) i.2)⟩) :: t) hl_20 ?_ ?_; exact sb; clear hl_20
   rintro ⟨i1, L2⟩ _ hb_22; unfold m_cocketref01_trim_l2 at hb_22; try dsimp only at hb_22
   try dsimp only
   refine AWp.seq fun _ K_25 => ?_
   refine sg fun K k => ?_
   iterate 3 refine oo ?_
   refine AOps.nil (k _ ?_)
   refine cd hb_22 (fun hb_22 => ?_) (fun hb_22 => ?_)
   ·refine AWp.skip ?_
    refine K_25 _ ?_
    refine AWp.seq fun _ K_27 => ?_
    refine AWp.block ?_
    refine AWp.reg ?_
    obtain ⟨e2, ⟨f_28, f_29, f_30, f_31⟩, hb_22⟩ := idx_bind hb_22
    iterate 4 refine oo ?_
    refine oo ?_ (by intro K k; simp (disch := omega) only [go_sem, f_30, ↓reduceIte]; exact k)
    refine ol ?_
    obtain ⟨hg_32, hb_22⟩ := guardO_some hb_22
    iterate 2 refine oo ?_
    refine AOps.nil ?_
    refine K_27 _ ?_
    refine AWp.reg ?_
    iterate 3 refine oo ?_
    refine AOps.nil ?_
    exact ln hb_22 sb
   ·refine AWp.exit ?_
    refine lx hb_22 fun hx => ?_; cases hx; try dsimp only at h2_21
    cases h2_21; exact sb
  ·rintro L1 h; dsimp only at h ⊢
   refine sg fun K k => ?_
   iterate 2 refine oo ?_
   refine AOps.nil (k _ ?_)
   refine AWp.ret ?_
   cases h; exact rt
end Go.Pv.Tryd

namespace Go.Pv.Tryd
open Go.Proofs Go.Pv
theorem m_cocketref01_whole_ok (neg1 : Bool) (d1 : (List Int)) (r : Big) (h : m_cocketref01_whole neg1 d1 = some r) : PureFn Tryd.prog G 84 [.d (.bool neg1), .d (.imm 1 (lenc (PD.int .i64) d1))] (.d (.agg [(.bool r.Neg), (.imm 1 (lenc (PD.int .i64) r.D))])) := by
 unfold m_cocketref01_whole at h
 refine pf Tryd.func84 Tryd.ntmps84 ?_
 refine sg fun K k => ?_
 refine oo ?_
 refine AOps.nil (k _ ?_)
 refine sg fun K k => ?_
 refine oo ?_
 obtain ⟨r1, hx_1, h⟩ := bind_some h
 refine cl (m_cocketref01_trim_ok d1 _ hx_1) ?_
 refine oo ?_
 refine AOps.nil (k _ ?_)
 refine sg fun K k => ?_
 iterate 2 refine oo ?_
 refine ct 4 [4, 5] [1000] (fun  t => (13, .d (.bool (neg1 && (decide (0 < (r1.length : Int)))))) :: t) ?_ ?_
 ·rcases bt neg1 with hg_3 | hg_3
  ·rw [hg_3]
   iterate 4 refine oo ?_
   refine AOps.nil ?_
   exact sb
  ·rw [hg_3]
   iterate 4 refine oo ?_
   refine AOps.nil ?_
   exact sb
 iterate 3 refine oo ?_
 refine AOps.nil (k _ ?_)
 refine AWp.ret ?_
 cases h; exact rt
end Go.Pv.Tryd

namespace Go.Pv.Tryd
open Go.Proofs Go.Pv
theorem m_cocketref01_Of_ok (n1 : Int) (r : Big) (h : m_cocketref01_Of n1 = some r) : PureFn Tryd.prog G 73 [.d (.int .i64 n1)] (.d (.agg [(.bool r.Neg), (.imm 1 (lenc (PD.int .i64) r.D))])) := by
 unfold m_cocketref01_Of at h
 refine pf Tryd.func73 Tryd.ntmps73 ?_
 refine sg fun K k => ?_
 refine oo ?_
 refine AOps.nil (k _ ?_)
 refine sg fun K k => ?_
 refine oo ?_
 refine AOps.nil (k _ ?_)
 refine AWp.sub (Sub.void 3 3 1 1001 (by rfl) (by rfl) (by decide) (by decide)) ?_
 simp only [eput, hput, reduceCtorEq, ↓reduceIte, Nat.reduceAdd, Nat.reduceMul, Nat.reduceLT, Nat.reduceLeDiff, Nat.reduceEqDiff, Nat.reduceBEq, Int.reduceToNat]
 refine sg fun K k => ?_
 iterate 3 refine oo ?_
 refine AOps.nil (k _ ?_)
 refine jn (α := (List Int)) [2, 4] [1000] (fun i t => (3, .slc 1001 0 i.length) :: t) (fun i t => (1001, ⟨3, 1, dl (lenc (PD.int .i64) i)⟩) :: t) h ?_ ?_
 ·intro _ hj_2
  refine AWp.block ?_
  obtain ⟨x_7, hl_4, h2_5⟩ := bind_some hj_2
  refine lp (S := (Int × (List Int))) [2, 4] [1000] (fun i t => (0, .d (.int .i64 i.1)) :: (3, .slc 1001 0 i.2.length) :: t) (fun i t => (1001, ⟨3, 1, dl (lenc (PD.int .i64) i.2)⟩) :: t) hl_4 ?_ ?_; exact sb; clear hl_4
  rintro ⟨n2, L2⟩ _ hb_6; unfold m_cocketref01_Of_l1 at hb_6; try dsimp only at hb_6
  try dsimp only
  refine AWp.seq fun _ K_9 => ?_
  refine sg fun K k => ?_
  iterate 2 refine oo ?_
  refine AOps.nil (k _ ?_)
  refine cd hb_6 (fun hb_6 => ?_) (fun hb_6 => ?_)
  ·refine AWp.skip ?_
   refine K_9 _ ?_
   refine AWp.block ?_
   refine sg fun K k => ?_
   iterate 3 refine oo ?_
   refine AOps.nil (k _ ?_)
   refine jn (α := Int) [0, 2, 3, 4] [1000, 1001] (fun i t => (5, .d (.int .i64 i)) :: t) (fun i t => t) hb_6 ?_ ?_
   ·intro _ hj_12
    refine sg fun K k => ?_
    iterate 2 refine oo ?_
    refine AOps.nil (k _ ?_)
    refine cd hj_12 (fun hj_12 => ?_) (fun hj_12 => ?_)
    ·refine AWp.reg ?_
     iterate 3 refine oo ?_
     refine AOps.nil ?_
     cases hj_12; exact sb
    ·refine AWp.skip ?_
     cases hj_12; exact sb
   ·rintro r1 hb_6; dsimp only at hb_6 ⊢
    refine sg fun K k => ?_
    iterate 2 refine oo ?_
    refine ol ?_
    obtain ⟨hg_14, hb_6⟩ := guardO_some hb_6
    iterate 2 refine oo ?_
    refine AOps.nil (k _ ?_)
    refine AWp.reg ?_
    iterate 3 refine oo ?_
    refine AOps.nil ?_
    exact ln hb_6 sb
  ·refine AWp.exit ?_
   refine lx hb_6 fun hx => ?_; cases hx; try dsimp only at h2_5
   cases h2_5; exact sb
 ·rintro L1 h; dsimp only at h ⊢
  refine sg fun K k => ?_
  iterate 2 refine oo ?_
  refine AOps.sub (τ := ⟨[(2, .ptr 1000 0 0), (22, .d (.bool (decide (n1 < 0)))), (23, .d (.imm 1 (lenc (PD.int .i64) L1)))], [(1000, ⟨57, 2, [.d (.agg [(.bool false), .nilslice])]⟩)], [], none⟩) sc ?_
  obtain ⟨r2, hx_15, h⟩ := bind_some h
  refine cl (m_cocketref01_whole_ok (decide (n1 < 0)) L1 _ hx_15) ?_
  refine oo ?_
  refine AOps.nil (k _ ?_)
  refine AWp.ret ?_
  cases h; exact rt
end Go.Pv.Tryd

namespace Go.Pv.Tryd
open Go.Proofs Go.Pv
theorem m_cocketref01_Neg_ok (a1 : Big) (r : Big) (h : m_cocketref01_Neg a1 = some r) : PureFn Tryd.prog G 86 [.d (.agg [(.bool a1.Neg), (.imm 1 (lenc (PD.int .i64) a1.D))])] (.d (.agg [(.bool r.Neg), (.imm 1 (lenc (PD.int .i64) r.D))])) := by
 unfold m_cocketref01_Neg at h
 refine pf Tryd.func86 Tryd.ntmps86 ?_
 refine sg fun K k => ?_
 iterate 2 refine oo ?_
 refine AOps.nil (k _ ?_)
 refine sg fun K k => ?_
 iterate 5 refine oo ?_
 obtain ⟨r1, hx_1, h⟩ := bind_some h
 refine cl (m_cocketref01_whole_ok (!a1.Neg) a1.D _ hx_1) ?_
 refine oo ?_
 refine AOps.nil (k _ ?_)
 refine AWp.ret ?_
 cases h; exact rt
end Go.Pv.Tryd

namespace Go.Pv.Tryd
open Go.Proofs Go.Pv
theorem m_cocketref01_mulD_ok (a1 : (List Int)) (b1 : (List Int)) (r : (List Int)) (h : m_cocketref01_mulD a1 b1 = some r) : PureFn Tryd.prog G 85 [.d (.imm 1 (lenc (PD.int .i64) a1)), .d (.imm 1 (lenc (PD.int .i64) b1))] (.d (.imm 1 (lenc (PD.int .i64) r))) := by
 unfold m_cocketref01_mulD at h
 refine pf Tryd.func85 Tryd.ntmps85 ?_
 refine sg fun K k => ?_
 refine oo ?_
 refine AOps.nil (k _ ?_)
 refine sg fun K k => ?_
 obtain ⟨hg_1, h⟩ := guardO_some h
 iterate 7 refine oo ?_
 refine AOps.nil (k _ ?_)
 refine jn (α := (List Int)) [] [] (fun i t => (5, .slc 1000 0 i.length) :: t) (fun i t => (1000, ⟨3, 1, dl (lenc (PD.int .i64) i)⟩) :: t) h ?_ ?_
 ·intro _ hj_3
  refine sg fun K k => ?_
  refine oo ?_
  refine AOps.nil (k _ ?_)
  refine AWp.block ?_
  obtain ⟨x_8, hl_5, h2_6⟩ := bind_some hj_3
  refine lp (S := (Int × (List Int))) [0, 1] [] (fun i t => (5, .slc 1000 0 i.2.length) :: (6, .d (.int .i64 i.1)) :: t) (fun i t => (1000, ⟨3, 1, dl (lenc (PD.int .i64) i.2)⟩) :: t) hl_5 ?_ ?_; exact sb; clear hl_5
  rintro ⟨i1, L2⟩ _ hb_7; unfold m_cocketref01_mulD_l1 at hb_7; try dsimp only at hb_7
  try dsimp only
  refine AWp.seq fun _ K_10 => ?_
  refine sg fun K k => ?_
  iterate 4 refine oo ?_
  refine AOps.nil (k _ ?_)
  refine cd hb_7 (fun hb_7 => ?_) (fun hb_7 => ?_)
  ·refine AWp.skip ?_
   refine K_10 _ ?_
   refine jn (α := (List Int)) [0, 1, 6] [] (fun i t => (5, .slc 1000 0 i.length) :: t) (fun i t => (1000, ⟨3, 1, dl (lenc (PD.int .i64) i)⟩) :: t) hb_7 ?_ ?_
   ·intro _ hj_13
    refine AWp.block ?_
    refine sg fun K k => ?_
    refine oo ?_
    refine AOps.nil (k _ ?_)
    refine jn (α := (Int × (List Int))) [0, 1, 6] [] (fun i t => (5, .slc 1000 0 i.2.length) :: (7, .d (.int .i64 i.1)) :: t) (fun i t => (1000, ⟨3, 1, dl (lenc (PD.int .i64) i.2)⟩) :: t) hj_13 ?_ ?_
    ·intro _ hj_15
     refine sg fun K k => ?_
     refine oo ?_
     refine AOps.nil (k _ ?_)
     refine AWp.block ?_
     obtain ⟨x_20, hl_17, h2_18⟩ := bind_some hj_15
     refine lp (S := (Int × Int × (List Int))) [0, 1, 6] [] (fun i t => (5, .slc 1000 0 i.2.2.length) :: (7, .d (.int .i64 i.1)) :: (8, .d (.int .i64 i.2.1)) :: t) (fun i t => (1000, ⟨3, 1, dl (lenc (PD.int .i64) i.2.2)⟩) :: t) hl_17 ?_ ?_; exact sb; clear hl_17
     rintro ⟨carry2, k1, L5⟩ _ hb_19; unfold m_cocketref01_mulD_l2 at hb_19; try dsimp only at hb_19
     try dsimp only
     refine AWp.seq fun _ K_22 => ?_
     refine sg fun K k => ?_
     iterate 4 refine oo ?_
     refine AOps.nil (k _ ?_)
     refine cd hb_19 (fun hb_19 => ?_) (fun hb_19 => ?_)
     ·refine AWp.skip ?_
      refine K_22 _ ?_
      refine AWp.seq fun _ K_24 => ?_
      refine AWp.block ?_
      refine sd mo fun K k => ?_
      obtain ⟨e1, ⟨f_25, f_26, f_27, f_28⟩, hb_19⟩ := idx_bind hb_19
      iterate 5 refine dd ?_
      refine dd ?_ (by intro K k; simp (disch := omega) only [go_sem, f_27, ↓reduceIte]; exact k)
      obtain ⟨e2, ⟨f_29, f_30, f_31, f_32⟩, hb_19⟩ := idx_bind hb_19
      iterate 3 refine dd ?_
      refine dd ?_ (by intro K k; simp (disch := omega) only [go_sem, f_31, ↓reduceIte]; exact k)
      obtain ⟨e3, ⟨f_33, f_34, f_35, f_36⟩, hb_19⟩ := idx_bind hb_19
      iterate 3 refine dd ?_
      refine dd ?_ (by intro K k; simp (disch := omega) only [go_sem, f_35, ↓reduceIte]; exact k)
      iterate 5 refine dd ?_
      refine DOps.nil (by kernel_rfl) (k _ ?_)
      refine sg fun K k => ?_
      obtain ⟨e4, ⟨f_37, f_38, f_39, f_40⟩, hb_19⟩ := idx_bind hb_19
      iterate 7 refine oo ?_
      refine oo ?_ (by intro K k; simp (disch := omega) only [go_sem, f_39, ↓reduceIte]; exact k)
      refine AOps.nil (k _ ?_)
      refine AWp.reg ?_
      iterate 3 refine oo ?_
      refine AOps.nil ?_
      refine K_24 _ ?_
      refine AWp.reg ?_
      iterate 3 refine oo ?_
      refine AOps.nil ?_
      exact ln hb_19 sb
     ·refine AWp.exit ?_
      refine lx hb_19 fun hx => ?_; cases hx; try dsimp only at h2_18
      cases h2_18; exact sb
    ·rintro ⟨carry1, L4⟩ hj_13; dsimp only at hj_13 ⊢
     refine AWp.reg ?_
     obtain ⟨e5, ⟨f_41, f_42, f_43, f_44⟩, hj_13⟩ := idx_bind hj_13
     try simp only [Int.toNat_natCast] at f_43 f_44
     iterate 7 refine oo ?_
     refine oo ?_ (by intro K k; simp (disch := omega) only [go_sem, f_43, ↓reduceIte]; exact k)
     refine AOps.nil ?_
     cases hj_13; exact sb
   ·rintro L3 hb_7; dsimp only at hb_7 ⊢
    refine AWp.reg ?_
    iterate 3 refine oo ?_
    refine AOps.nil ?_
    exact ln hb_7 sb
  ·refine AWp.exit ?_
   refine lx hb_7 fun hx => ?_; cases hx; try dsimp only at h2_6
   cases h2_6; exact sb
 ·rintro L1 h; dsimp only at h ⊢
  refine sg fun K k => ?_
  refine oo ?_
  refine AOps.sub (τ := ⟨[(62, .d (.imm 1 (lenc (PD.int .i64) L1)))], [], [], none⟩) sc ?_
  obtain ⟨r1, hx_45, h⟩ := bind_some h
  refine cl (m_cocketref01_trim_ok L1 _ hx_45) ?_
  refine oo ?_
  refine AOps.nil (k _ ?_)
  refine AWp.ret ?_
  cases h; exact rt
end Go.Pv.Tryd

namespace Go.Pv.Tryd
open Go.Proofs Go.Pv
theorem m_cocketref01_cmpD_ok (a1 : (List Int)) (b1 : (List Int)) (r : Int) (h : m_cocketref01_cmpD a1 b1 = some r) : PureFn Tryd.prog G 83 [.d (.imm 1 (lenc (PD.int .i64) a1)), .d (.imm 1 (lenc (PD.int .i64) b1))] (.d (.int .i64 r)) := by
 unfold m_cocketref01_cmpD at h
 refine pf Tryd.func83 Tryd.ntmps83 ?_
 refine sg fun K k => ?_
 refine oo ?_
 refine AOps.nil (k _ ?_)
 refine AWp.seq fun _ K_1 => ?_
 refine sg fun K k => ?_
 iterate 5 refine oo ?_
 refine AOps.nil (k _ ?_)
 refine cd h (fun h => ?_) (fun h => ?_)
 ·refine sg fun K k => ?_
  refine oo ?_
  refine AOps.nil (k _ ?_)
  refine AWp.ret ?_
  cases h; exact rt
 ·refine AWp.skip ?_
  refine K_1 _ ?_
  refine AWp.seq fun _ K_3 => ?_
  refine sg fun K k => ?_
  iterate 5 refine oo ?_
  refine AOps.nil (k _ ?_)
  refine cd h (fun h => ?_) (fun h => ?_)
  ·refine sg fun K k => ?_
   refine oo ?_
   refine AOps.nil (k _ ?_)
   refine AWp.ret ?_
   cases h; exact rt
  ·refine AWp.skip ?_
   refine K_3 _ ?_
   refine jm (ι := Unit) [] [] (fun i t => t) (fun i t => t) .inl h ?_ ?_
   ·intro _ hj_6 h
    refine sg fun K k => ?_
    iterate 4 refine oo ?_
    refine AOps.nil (k _ ?_)
    refine AWp.block ?_
    obtain ⟨x_11, hl_8, h2_9⟩ := bind_some hj_6
    refine lp (S := Int) [0, 1] [] (fun i t => (5, .d (.int .i64 i)) :: t) (fun i t => t) hl_8 ?_ ?_; exact sb; clear hl_8
    rintro i1 _ hb_10; unfold m_cocketref01_cmpD_l1 at hb_10; try dsimp only at hb_10
    try dsimp only
    refine AWp.seq fun _ K_13 => ?_
    refine sg fun K k => ?_
    iterate 2 refine oo ?_
    refine AOps.nil (k _ ?_)
    refine cd hb_10 (fun hb_10 => ?_) (fun hb_10 => ?_)
    ·refine AWp.skip ?_
     refine K_13 _ ?_
     refine AWp.seq fun _ K_15 => ?_
     refine AWp.block ?_
     refine AWp.seq fun _ K_16 => ?_
     refine sd mo fun K k => ?_
     obtain ⟨e1, ⟨f_17, f_18, f_19, f_20⟩, hb_10⟩ := idx_bind hb_10
     iterate 3 refine dd ?_
     refine dd ?_ (by intro K k; simp (disch := omega) only [go_sem, f_19, ↓reduceIte]; exact k)
     obtain ⟨e2, ⟨f_21, f_22, f_23, f_24⟩, hb_10⟩ := idx_bind hb_10
     iterate 3 refine dd ?_
     refine dd ?_ (by intro K k; simp (disch := omega) only [go_sem, f_23, ↓reduceIte]; exact k)
     refine dd ?_
     refine DOps.nil (by kernel_rfl) (k _ ?_)
     refine cd hb_10 (fun hb_10 => ?_) (fun hb_10 => ?_)
     ·refine sg fun K k => ?_
      refine oo ?_
      refine AOps.nil (k _ ?_)
      refine AWp.ret ?_
      refine lx hb_10 fun hx => ?_; cases hx; try dsimp only at h2_9
      cases h2_9; try dsimp only at h
      cases h; exact rt
     ·refine AWp.skip ?_
      refine K_16 _ ?_
      refine sd mo fun K k => ?_
      obtain ⟨e3, ⟨f_26, f_27, f_28, f_29⟩, hb_10⟩ := idx_bind hb_10
      iterate 3 refine dd ?_
      refine dd ?_ (by intro K k; simp (disch := omega) only [go_sem, f_28, ↓reduceIte]; exact k)
      obtain ⟨e4, ⟨f_30, f_31, f_32, f_33⟩, hb_10⟩ := idx_bind hb_10
      iterate 3 refine dd ?_
      refine dd ?_ (by intro K k; simp (disch := omega) only [go_sem, f_32, ↓reduceIte]; exact k)
      refine dd ?_
      refine DOps.nil (by kernel_rfl) (k _ ?_)
      refine cd hb_10 (fun hb_10 => ?_) (fun hb_10 => ?_)
      ·refine sg fun K k => ?_
       refine oo ?_
       refine AOps.nil (k _ ?_)
       refine AWp.ret ?_
       refine lx hb_10 fun hx => ?_; cases hx; try dsimp only at h2_9
       cases h2_9; try dsimp only at h
       cases h; exact rt
      ·refine AWp.skip ?_
       refine K_15 _ ?_
       refine AWp.reg ?_
       iterate 3 refine oo ?_
       refine AOps.nil ?_
       exact ln hb_10 sb
    ·refine AWp.exit ?_
     refine lx hb_10 fun hx => ?_; cases hx; try dsimp only at h2_9
     exact ln h2_9 sb
   ·rintro _ h; dsimp only at h ⊢
    refine sg fun K k => ?_
    refine oo ?_
    refine AOps.nil (k _ ?_)
    refine AWp.ret ?_
    cases h; exact rt
end Go.Pv.Tryd

namespace Go.Pv.Tryd
open Go.Proofs Go.Pv
theorem m_cocketref01_subD_ok (a1 : (List Int)) (b1 : (List Int)) (r : (List Int)) (h : m_cocketref01_subD a1 b1 = some r) : PureFn Tryd.prog G 101 [.d (.imm 1 (lenc (PD.int .i64) a1)), .d (.imm 1 (lenc (PD.int .i64) b1))] (.d (.imm 1 (lenc (PD.int .i64) r))) := by
 unfold m_cocketref01_subD at h
 refine pf Tryd.func101 Tryd.ntmps101 ?_
 refine sg fun K k => ?_
 refine oo ?_
 refine AOps.nil (k _ ?_)
 refine sg fun K k => ?_
 refine oo ?_
 refine AOps.nil (k _ ?_)
 refine AWp.sub (Sub.void 5 3 1 1000 (by rfl) (by rfl) (by decide) (by decide)) ?_
 simp only [eput, hput, reduceCtorEq, ↓reduceIte, Nat.reduceAdd, Nat.reduceMul, Nat.reduceLT, Nat.reduceLeDiff, Nat.reduceEqDiff, Nat.reduceBEq, Int.reduceToNat]
 refine sg fun K k => ?_
 refine oo ?_
 refine AOps.nil (k _ ?_)
 refine jn (α := (List Int)) [] [] (fun i t => (5, .slc 1000 0 i.length) :: t) (fun i t => (1000, ⟨3, 1, dl (lenc (PD.int .i64) i)⟩) :: t) h ?_ ?_
 ·intro _ hj_2
  refine sg fun K k => ?_
  refine oo ?_
  refine AOps.nil (k _ ?_)
  refine AWp.block ?_
  obtain ⟨x_7, hl_4, h2_5⟩ := bind_some hj_2
  refine lp (S := (Int × Int × (List Int))) [0, 1] [] (fun i t => (5, .slc 1000 0 i.2.2.length) :: (6, .d (.int .i64 i.1)) :: (7, .d (.int .i64 i.2.1)) :: t) (fun i t => (1000, ⟨3, 1, dl (lenc (PD.int .i64) i.2.2)⟩) :: t) hl_4 ?_ ?_; exact sb; clear hl_4
  rintro ⟨borrow1, i1, L2⟩ _ hb_6; unfold m_cocketref01_subD_l1 at hb_6; try dsimp only at hb_6
  try dsimp only
  refine AWp.seq fun _ K_9 => ?_
  refine sg fun K k => ?_
  iterate 4 refine oo ?_
  refine AOps.nil (k _ ?_)
  refine cd hb_6 (fun hb_6 => ?_) (fun hb_6 => ?_)
  ·refine AWp.skip ?_
   refine K_9 _ ?_
   refine AWp.seq fun _ K_11 => ?_
   refine AWp.block ?_
   refine sg fun K k => ?_
   obtain ⟨e1, ⟨f_12, f_13, f_14, f_15⟩, hb_6⟩ := idx_bind hb_6
   iterate 3 refine oo ?_
   refine oo ?_ (by intro K k; simp (disch := omega) only [go_sem, f_14, ↓reduceIte]; exact k)
   iterate 3 refine oo ?_
   refine AOps.nil (k _ ?_)
   refine jn (α := Int) [0, 1, 5, 7] [1000] (fun i t => (8, .d (.int .i64 i)) :: t) (fun i t => t) hb_6 ?_ ?_
   ·intro _ hj_17
    refine sg fun K k => ?_
    iterate 4 refine oo ?_
    refine AOps.nil (k _ ?_)
    refine cd hj_17 (fun hj_17 => ?_) (fun hj_17 => ?_)
    ·refine AWp.reg ?_
     obtain ⟨e2, ⟨f_19, f_20, f_21, f_22⟩, hj_17⟩ := idx_bind hj_17
     iterate 4 refine oo ?_
     refine oo ?_ (by intro K k; simp (disch := omega) only [go_sem, f_21, ↓reduceIte]; exact k)
     iterate 2 refine oo ?_
     refine AOps.nil ?_
     cases hj_17; exact sb
    ·refine AWp.skip ?_
     cases hj_17; exact sb
   ·rintro s1 hb_6; dsimp only at hb_6 ⊢
    refine sg fun K k => ?_
    refine oo ?_
    refine AOps.nil (k _ ?_)
    refine jn (α := (Int × Int)) [0, 1, 5, 7] [1000] (fun i t => (6, .d (.int .i64 i.1)) :: (8, .d (.int .i64 i.2)) :: t) (fun i t => t) hb_6 ?_ ?_
    ·intro _ hj_24
     refine sg fun K k => ?_
     iterate 2 refine oo ?_
     refine AOps.nil (k _ ?_)
     refine cd hj_24 (fun hj_24 => ?_) (fun hj_24 => ?_)
     ·refine sg fun K k => ?_
      iterate 3 refine oo ?_
      refine AOps.nil (k _ ?_)
      refine AWp.reg ?_
      refine oo ?_
      refine AOps.nil ?_
      cases hj_24; exact sb
     ·refine AWp.skip ?_
      cases hj_24; exact sb
    ·rintro ⟨borrow2, s2⟩ hb_6; dsimp only at hb_6 ⊢
     refine AWp.reg ?_
     iterate 2 refine oo ?_
     refine ol ?_
     obtain ⟨hg_26, hb_6⟩ := guardO_some hb_6
     iterate 2 refine oo ?_
     refine AOps.nil ?_
     refine K_11 _ ?_
     refine AWp.reg ?_
     iterate 3 refine oo ?_
     refine AOps.nil ?_
     exact ln hb_6 sb
  ·refine AWp.exit ?_
   refine lx hb_6 fun hx => ?_; cases hx; try dsimp only at h2_5
   cases h2_5; exact sb
 ·rintro L1 h; dsimp only at h ⊢
  refine sg fun K k => ?_
  refine oo ?_
  refine AOps.sub (τ := ⟨[(39, .d (.imm 1 (lenc (PD.int .i64) L1)))], [], [], none⟩) sc ?_
  obtain ⟨r1, hx_27, h⟩ := bind_some h
  refine cl (m_cocketref01_trim_ok L1 _ hx_27) ?_
  refine oo ?_
  refine AOps.nil (k _ ?_)
  refine AWp.ret ?_
  cases h; exact rt
end Go.Pv.Tryd

namespace Go.Pv.Tryd
open Go.Proofs Go.Pv
theorem m_cocketref01_divD_ok (a1 : (List Int)) (b1 : (List Int)) (r : ((List Int) × (List Int))) (h : m_cocketref01_divD a1 b1 = some r) : PureFn Tryd.prog G 99 [.d (.imm 1 (lenc (PD.int .i64) a1)), .d (.imm 1 (lenc (PD.int .i64) b1))] (.tuple [.d (.imm 1 (lenc (PD.int .i64) r.1)), .d (.imm 1 (lenc (PD.int .i64) r.2))]) := by
 unfold m_cocketref01_divD at h
 refine pf Tryd.func99 Tryd.ntmps99 ?_
 refine sg fun K k => ?_
 iterate 2 refine oo ?_
 refine AOps.nil (k _ ?_)
 refine AWp.seq fun _ K_1 => ?_
 refine sg fun K k => ?_
 iterate 3 refine oo ?_
 refine AOps.nil (k _ ?_)
 refine cd h (fun h => ?_) (fun h => ?_)
 ·refine sg fun K k => ?_
  iterate 2 refine oo ?_
  refine AOps.nil (k _ ?_)
  refine AWp.ret ?_
  cases h; exact rt
 ·refine AWp.skip ?_
  refine K_1 _ ?_
  refine sg fun K k => ?_
  obtain ⟨hg_3, h⟩ := guardO_some h
  iterate 4 refine oo ?_
  refine AOps.nil (k _ ?_)
  refine sg fun K k => ?_
  refine oo ?_
  refine AOps.nil (k _ ?_)
  refine jn (α := ((List Int) × (List Int))) [] [] (fun i t => (6, .slc 1000 0 i.2.length) :: (7, .d (.imm 1 (lenc (PD.int .i64) i.1))) :: t) (fun i t => (1000, ⟨3, 1, dl (lenc (PD.int .i64) i.2)⟩) :: t) h ?_ ?_
  ·intro _ hj_5
   refine sg fun K k => ?_
   iterate 4 refine oo ?_
   refine AOps.nil (k _ ?_)
   refine AWp.block ?_
   obtain ⟨x_10, hl_7, h2_8⟩ := bind_some hj_5
   refine lp (S := ((List Int) × Int × (List Int))) [0, 1] [] (fun i t => (6, .slc 1000 0 i.2.2.length) :: (7, .d (.imm 1 (lenc (PD.int .i64) i.1))) :: (8, .d (.int .i64 i.2.1)) :: t) (fun i t => (1000, ⟨3, 1, dl (lenc (PD.int .i64) i.2.2)⟩) :: t) hl_7 ?_ ?_; exact sc; clear hl_7
   rintro ⟨rem2, i1, L2⟩ _ hb_9; unfold m_cocketref01_divD_l1 at hb_9; try dsimp only at hb_9
   try dsimp only
   refine AWp.seq fun _ K_12 => ?_
   refine sg fun K k => ?_
   iterate 2 refine oo ?_
   refine AOps.nil (k _ ?_)
   refine cd hb_9 (fun hb_9 => ?_) (fun hb_9 => ?_)
   ·refine AWp.skip ?_
    refine K_12 _ ?_
    refine jn (α := ((List Int) × (List Int))) [0, 1, 8] [] (fun i t => (6, .slc 1000 0 i.2.length) :: (7, .d (.imm 1 (lenc (PD.int .i64) i.1))) :: t) (fun i t => (1000, ⟨3, 1, dl (lenc (PD.int .i64) i.2)⟩) :: t) hb_9 ?_ ?_
    ·intro _ hj_15
     refine AWp.block ?_
     refine sg fun K k => ?_
     obtain ⟨e1, ⟨f_16, f_17, f_18, f_19⟩, hj_15⟩ := idx_bind hj_15
     iterate 3 refine oo ?_
     refine oo ?_ (by intro K k; simp (disch := omega) only [go_sem, f_18, ↓reduceIte]; exact k)
     iterate 2 refine oo ?_
     refine AOps.nil (k _ ?_)
     refine sg fun K k => ?_
     obtain ⟨hg_20, hj_15⟩ := guardO_some hj_15
     iterate 3 refine oo ?_
     refine AOps.sub (τ := ⟨[(0, .d (.imm 1 (lenc (PD.int .i64) a1))), (1, .d (.imm 1 (lenc (PD.int .i64) b1))), (6, .slc 1000 0 L2.length), (7, .d (.imm 1 (lenc (PD.int .i64) rem2))), (8, .d (.int .i64 i1)), (34, .d (.imm 1 (lenc (PD.int .i64) ([e1] ++ rem2))))], [(1000, ⟨3, 1, dl (lenc (PD.int .i64) L2)⟩)], [], none⟩) sc ?_
     obtain ⟨r1, hx_21, hj_15⟩ := bind_some hj_15
     refine cl (m_cocketref01_trim_ok ([e1] ++ rem2) _ hx_21) ?_
     refine oo ?_
     refine AOps.nil (k _ ?_)
     refine sg fun K k => ?_
     iterate 2 refine oo ?_
     refine AOps.nil (k _ ?_)
     refine jn (α := Int) [0, 1, 6, 7, 8] [1000] (fun i t => (10, .d (.int .i64 i)) :: t) (fun i t => t) hj_15 ?_ ?_
     ·intro _ hj_23
      refine AWp.block ?_
      obtain ⟨x_28, hl_25, h2_26⟩ := bind_some hj_23
      refine lp (S := (Int × Int)) [0, 1, 6, 7, 8] [1000] (fun i t => (10, .d (.int .i64 i.1)) :: (11, .d (.int .i64 i.2)) :: t) (fun i t => t) hl_25 ?_ ?_; exact sb; clear hl_25
      rintro ⟨lo2, hi1⟩ _ hb_27; unfold m_cocketref01_divD_l2 at hb_27; try dsimp only at hb_27
      try dsimp only
      refine AWp.seq fun _ K_30 => ?_
      refine sg fun K k => ?_
      iterate 3 refine oo ?_
      refine AOps.nil (k _ ?_)
      refine cd hb_27 (fun hb_27 => ?_) (fun hb_27 => ?_)
      ·refine AWp.skip ?_
       refine K_30 _ ?_
       refine AWp.block ?_
       refine sg fun K k => ?_
       iterate 6 refine oo ?_
       refine AOps.nil (k _ ?_)
       refine sg fun K k => ?_
       iterate 2 refine oo ?_
       refine ol ?_
       obtain ⟨r2, hx_32, hb_27⟩ := bind_some hb_27
       refine cl (m_cocketref01_trim_ok [(IntKind.i64.wrap ((IntKind.i64.wrap ((IntKind.i64.wrap (lo2 + hi1)) + 1)).tdiv 2))] _ hx_32) ?_
       obtain ⟨r3, hx_33, hb_27⟩ := bind_some hb_27
       refine cl (m_cocketref01_mulD_ok b1 r2 _ hx_33) ?_
       refine oo ?_
       refine AOps.nil (k _ ?_)
       refine sg fun K k => ?_
       iterate 2 refine oo ?_
       obtain ⟨r4, hx_34, hb_27⟩ := bind_some hb_27
       refine cl (m_cocketref01_cmpD_ok r3 r1 _ hx_34) ?_
       refine oo ?_
       refine AOps.nil (k _ ?_)
       refine cd hb_27 (fun hb_27 => ?_) (fun hb_27 => ?_)
       ·refine AWp.reg ?_
        iterate 2 refine oo ?_
        refine AOps.nil ?_
        exact ln hb_27 sb
       ·refine AWp.reg ?_
        iterate 3 refine oo ?_
        refine AOps.nil ?_
        exact ln hb_27 sb
      ·refine AWp.exit ?_
       refine lx hb_27 fun hx => ?_; cases hx; try dsimp only at h2_26
       cases h2_26; exact sb
     ·rintro lo1 hj_15; dsimp only at hj_15 ⊢
      refine sg fun K k => ?_
      obtain ⟨e2, ⟨f_36, f_37, f_38, f_39⟩, hj_15⟩ := idx_bind hj_15
      iterate 4 refine oo ?_
      refine oo ?_ (by intro K k; simp (disch := omega) only [go_sem, f_38, ↓reduceIte]; exact k)
      refine AOps.nil (k _ ?_)
      refine AWp.reg ?_
      iterate 3 refine oo ?_
      refine ol ?_
      obtain ⟨r5, hx_40, hj_15⟩ := bind_some hj_15
      refine cl (m_cocketref01_trim_ok [lo1] _ hx_40) ?_
      obtain ⟨r6, hx_41, hj_15⟩ := bind_some hj_15
      refine cl (m_cocketref01_mulD_ok b1 r5 _ hx_41) ?_
      obtain ⟨r7, hx_42, hj_15⟩ := bind_some hj_15
      refine cl (m_cocketref01_subD_ok r1 r6 _ hx_42) ?_
      refine oo ?_
      refine AOps.nil ?_
      cases hj_15; exact sb
    ·rintro ⟨rem3, L3⟩ hb_9; dsimp only at hb_9 ⊢
     refine AWp.reg ?_
     iterate 3 refine oo ?_
     refine AOps.nil ?_
     exact ln hb_9 sb
   ·refine AWp.exit ?_
    refine lx hb_9 fun hx => ?_; cases hx; try dsimp only at h2_8
    cases h2_8; exact sb
  ·rintro ⟨rem1, L1⟩ h; dsimp only at h ⊢
   refine sg fun K k => ?_
   refine oo ?_
   refine AOps.sub (τ := ⟨[(7, .d (.imm 1 (lenc (PD.int .i64) rem1))), (67, .d (.imm 1 (lenc (PD.int .i64) L1)))], [], [], none⟩) sc ?_
   obtain ⟨r8, hx_43, h⟩ := bind_some h
   refine cl (m_cocketref01_trim_ok L1 _ hx_43) ?_
   iterate 3 refine oo ?_
   refine AOps.nil (k _ ?_)
   refine AWp.ret ?_
   cases h; exact rt
end Go.Pv.Tryd

namespace Go.Pv.Tryd
open Go.Proofs Go.Pv
theorem m_cocketref01_gcdD_ok (a1 : (List Int)) (b1 : (List Int)) (r : (List Int)) (h : m_cocketref01_gcdD a1 b1 = some r) : PureFn Tryd.prog G 87 [.d (.imm 1 (lenc (PD.int .i64) a1)), .d (.imm 1 (lenc (PD.int .i64) b1))] (.d (.imm 1 (lenc (PD.int .i64) r))) := by
 unfold m_cocketref01_gcdD at h
 refine pf Tryd.func87 Tryd.ntmps87 ?_
 refine sg fun K k => ?_
 refine oo ?_
 refine AOps.nil (k _ ?_)
 refine jn (α := (List Int)) [] [] (fun i t => (0, .d (.imm 1 (lenc (PD.int .i64) i))) :: t) (fun i t => t) h ?_ ?_
 ·intro _ hj_2
  refine AWp.block ?_
  obtain ⟨x_7, hl_4, h2_5⟩ := bind_some hj_2
  refine lp (S := ((List Int) × (List Int))) [] [] (fun i t => (0, .d (.imm 1 (lenc (PD.int .i64) i.1))) :: (1, .d (.imm 1 (lenc (PD.int .i64) i.2))) :: t) (fun i t => t) hl_4 ?_ ?_; exact sb; clear hl_4
  rintro ⟨a3, b2⟩ _ hb_6; unfold m_cocketref01_gcdD_l1 at hb_6; try dsimp only at hb_6
  try dsimp only
  refine AWp.seq fun _ K_9 => ?_
  refine sg fun K k => ?_
  iterate 3 refine oo ?_
  refine AOps.nil (k _ ?_)
  refine cd hb_6 (fun hb_6 => ?_) (fun hb_6 => ?_)
  ·refine AWp.skip ?_
   refine K_9 _ ?_
   refine AWp.block ?_
   refine sg fun K k => ?_
   iterate 2 refine oo ?_
   obtain ⟨r1, hx_11, hb_6⟩ := bind_some hb_6
   refine cl (m_cocketref01_divD_ok a3 b2 _ hx_11) ?_
   iterate 5 refine oo ?_
   refine AOps.nil (k _ ?_)
   refine AWp.reg ?_
   iterate 4 refine oo ?_
   refine AOps.nil ?_
   exact ln hb_6 sb
  ·refine AWp.exit ?_
   refine lx hb_6 fun hx => ?_; cases hx; try dsimp only at h2_5
   cases h2_5; exact sb
 ·rintro a2 h; dsimp only at h ⊢
  refine sg fun K k => ?_
  iterate 2 refine oo ?_
  refine AOps.nil (k _ ?_)
  refine AWp.ret ?_
  cases h; exact rt
end Go.Pv.Tryd

namespace Go.Pv.Tryd
open Go.Proofs Go.Pv
theorem m_cocketref01_addD_ok (a1 : (List Int)) (b1 : (List Int)) (r : (List Int)) (h : m_cocketref01_addD a1 b1 = some r) : PureFn Tryd.prog G 100 [.d (.imm 1 (lenc (PD.int .i64) a1)), .d (.imm 1 (lenc (PD.int .i64) b1))] (.d (.imm 1 (lenc (PD.int .i64) r))) := by
 unfold m_cocketref01_addD at h
 refine pf Tryd.func100 Tryd.ntmps100 ?_
 refine sg fun K k => ?_
 refine oo ?_
 refine AOps.nil (k _ ?_)
 refine sg fun K k => ?_
 refine oo ?_
 refine AOps.nil (k _ ?_)
 refine AWp.sub (Sub.void 5 3 1 1000 (by rfl) (by rfl) (by decide) (by decide)) ?_
 simp only [eput, hput, reduceCtorEq, ↓reduceIte, Nat.reduceAdd, Nat.reduceMul, Nat.reduceLT, Nat.reduceLeDiff, Nat.reduceEqDiff, Nat.reduceBEq, Int.reduceToNat]
 refine sg fun K k => ?_
 refine oo ?_
 refine AOps.nil (k _ ?_)
 refine jn (α := (List Int)) [] [] (fun i t => (5, .slc 1000 0 i.length) :: t) (fun i t => (1000, ⟨3, 1, dl (lenc (PD.int .i64) i)⟩) :: t) h ?_ ?_
 ·intro _ hj_2
  refine sg fun K k => ?_
  refine oo ?_
  refine AOps.nil (k _ ?_)
  refine AWp.block ?_
  obtain ⟨x_7, hl_4, h2_5⟩ := bind_some hj_2
  refine lp (S := (Int × Int × (List Int))) [0, 1] [] (fun i t => (5, .slc 1000 0 i.2.2.length) :: (6, .d (.int .i64 i.1)) :: (7, .d (.int .i64 i.2.1)) :: t) (fun i t => (1000, ⟨3, 1, dl (lenc (PD.int .i64) i.2.2)⟩) :: t) hl_4 ?_ ?_; exact sb; clear hl_4
  rintro ⟨carry1, i1, L2⟩ _ hb_6; unfold m_cocketref01_addD_l1 at hb_6; try dsimp only at hb_6
  try dsimp only
  refine AWp.seq fun _ K_9 => ?_
  refine sg fun K k => ?_
  iterate 5 refine oo ?_
  refine ct 5 [0, 1, 5, 6, 7] [1000] (fun  t => (18, .d (.bool ((decide (i1 < (a1.length : Int))) || (decide (i1 < (b1.length : Int)))))) :: t) ?_ ?_
  ·rcases bt (decide (i1 < (a1.length : Int))) with hg_11 | hg_11
   ·rw [hg_11]
    iterate 5 refine oo ?_
    refine AOps.nil ?_
    exact sb
   ·rw [hg_11]
    iterate 5 refine oo ?_
    refine AOps.nil ?_
    exact sb
  refine oo ?_
  refine ct 3 [0, 1, 5, 6, 7] [1000] (fun  t => (22, .d (.bool (((decide (i1 < (a1.length : Int))) || (decide (i1 < (b1.length : Int)))) || (decide (0 < carry1))))) :: t) ?_ ?_
  ·rcases bt ((decide (i1 < (a1.length : Int))) || (decide (i1 < (b1.length : Int)))) with hg_13 | hg_13
   ·rw [hg_13]
    iterate 3 refine oo ?_
    refine AOps.nil ?_
    exact sb
   ·rw [hg_13]
    iterate 3 refine oo ?_
    refine AOps.nil ?_
    exact sb
  refine AOps.nil (k _ ?_)
  refine cd hb_6 (fun hb_6 => ?_) (fun hb_6 => ?_)
  ·refine AWp.skip ?_
   refine K_9 _ ?_
   refine AWp.seq fun _ K_15 => ?_
   refine AWp.block ?_
   refine sg fun K k => ?_
   iterate 2 refine oo ?_
   refine AOps.nil (k _ ?_)
   refine jn (α := Int) [0, 1, 5, 7] [1000] (fun i t => (8, .d (.int .i64 i)) :: t) (fun i t => t) hb_6 ?_ ?_
   ·intro _ hj_17
    refine sg fun K k => ?_
    iterate 4 refine oo ?_
    refine AOps.nil (k _ ?_)
    refine cd hj_17 (fun hj_17 => ?_) (fun hj_17 => ?_)
    ·refine AWp.reg ?_
     obtain ⟨e1, ⟨f_19, f_20, f_21, f_22⟩, hj_17⟩ := idx_bind hj_17
     iterate 4 refine oo ?_
     refine oo ?_ (by intro K k; simp (disch := omega) only [go_sem, f_21, ↓reduceIte]; exact k)
     iterate 2 refine oo ?_
     refine AOps.nil ?_
     cases hj_17; exact sb
    ·refine AWp.skip ?_
     cases hj_17; exact sb
   ·rintro s1 hb_6; dsimp only at hb_6 ⊢
    refine jn (α := Int) [0, 1, 5, 7] [1000] (fun i t => (8, .d (.int .i64 i)) :: t) (fun i t => t) hb_6 ?_ ?_
    ·intro _ hj_24
     refine sg fun K k => ?_
     iterate 4 refine oo ?_
     refine AOps.nil (k _ ?_)
     refine cd hj_24 (fun hj_24 => ?_) (fun hj_24 => ?_)
     ·refine AWp.reg ?_
      obtain ⟨e2, ⟨f_26, f_27, f_28, f_29⟩, hj_24⟩ := idx_bind hj_24
      iterate 4 refine oo ?_
      refine oo ?_ (by intro K k; simp (disch := omega) only [go_sem, f_28, ↓reduceIte]; exact k)
      iterate 2 refine oo ?_
      refine AOps.nil ?_
      cases hj_24; exact sb
     ·refine AWp.skip ?_
      cases hj_24; exact sb
    ·rintro s2 hb_6; dsimp only at hb_6 ⊢
     refine sg fun K k => ?_
     iterate 3 refine oo ?_
     refine ol ?_
     obtain ⟨hg_30, hb_6⟩ := guardO_some hb_6
     iterate 2 refine oo ?_
     refine AOps.nil (k _ ?_)
     refine AWp.reg ?_
     iterate 3 refine oo ?_
     refine AOps.nil ?_
     refine K_15 _ ?_
     refine AWp.reg ?_
     iterate 3 refine oo ?_
     refine AOps.nil ?_
     exact ln hb_6 sb
  ·refine AWp.exit ?_
   refine lx hb_6 fun hx => ?_; cases hx; try dsimp only at h2_5
   cases h2_5; exact sb
 ·rintro L1 h; dsimp only at h ⊢
  refine sg fun K k => ?_
  iterate 2 refine oo ?_
  refine AOps.nil (k _ ?_)
  refine AWp.ret ?_
  cases h; exact rt
end Go.Pv.Tryd

namespace Go.Pv.Tryd
open Go.Proofs Go.Pv
theorem m_cocketref01_Over_ok (a1 : Big) (b1 : Big) (r : (Big × Big)) (h : m_cocketref01_Over a1 b1 = some r) : PureFn Tryd.prog G 88 [.d (.agg [(.bool a1.Neg), (.imm 1 (lenc (PD.int .i64) a1.D))]), .d (.agg [(.bool b1.Neg), (.imm 1 (lenc (PD.int .i64) b1.D))])] (.tuple [.d (.agg [(.bool r.1.Neg), (.imm 1 (lenc (PD.int .i64) r.1.D))]), .d (.agg [(.bool r.2.Neg), (.imm 1 (lenc (PD.int .i64) r.2.D))])]) := by
 unfold m_cocketref01_Over at h
 refine pf Tryd.func88 Tryd.ntmps88 ?_
 refine sg fun K k => ?_
 iterate 4 refine oo ?_
 refine AOps.nil (k _ ?_)
 refine sg fun K k => ?_
 iterate 4 refine oo ?_
 obtain ⟨r1, hx_1, h⟩ := bind_some h
 refine cl (m_cocketref01_divD_ok a1.D b1.D _ hx_1) ?_
 iterate 5 refine oo ?_
 refine AOps.nil (k _ ?_)
 refine AWp.seq fun _ K_2 => ?_
 refine sg fun K k => ?_
 iterate 3 refine oo ?_
 refine AOps.nil (k _ ?_)
 refine cd h (fun h => ?_) (fun h => ?_)
 ·refine sg fun K k => ?_
  refine oo ?_
  obtain ⟨r2, hx_4, h⟩ := bind_some h
  refine cl (m_cocketref01_whole_ok false r1.1 _ hx_4) ?_
  refine oo ?_
  obtain ⟨r3, hx_5, h⟩ := bind_some h
  refine cl (m_cocketref01_whole_ok false r1.2 _ hx_5) ?_
  iterate 2 refine oo ?_
  refine AOps.nil (k _ ?_)
  refine AWp.ret ?_
  cases h; exact rt
 ·refine AWp.skip ?_
  refine K_2 _ ?_
  refine AWp.seq fun _ K_6 => ?_
  refine sg fun K k => ?_
  iterate 3 refine oo ?_
  refine AOps.nil (k _ ?_)
  refine cd h (fun h => ?_) (fun h => ?_)
  ·refine sg fun K k => ?_
   refine oo ?_
   obtain ⟨r4, hx_8, h⟩ := bind_some h
   refine cl (m_cocketref01_whole_ok true r1.1 _ hx_8) ?_
   iterate 3 refine oo ?_
   refine AOps.nil (k _ ?_)
   refine AWp.ret ?_
   cases h; exact rt
  ·refine AWp.skip ?_
   refine K_6 _ ?_
   refine sd mo fun K k => ?_
   refine dd ?_
   refine ddl ?_
   obtain ⟨r5, hx_9, h⟩ := bind_some h
   refine dcl (m_cocketref01_addD_ok r1.1 [1] _ hx_9) ?_
   obtain ⟨r6, hx_10, h⟩ := bind_some h
   refine dcl (m_cocketref01_whole_ok true r5 _ hx_10) ?_
   iterate 3 refine dd ?_
   obtain ⟨r7, hx_11, h⟩ := bind_some h
   refine dcl (m_cocketref01_subD_ok b1.D r1.2 _ hx_11) ?_
   obtain ⟨r8, hx_12, h⟩ := bind_some h
   refine dcl (m_cocketref01_whole_ok false r7 _ hx_12) ?_
   iterate 2 refine dd ?_
   refine DOps.nil (by kernel_rfl) (k _ ?_)
   refine AWp.ret ?_
   cases h; exact rt
end Go.Pv.Tryd

namespace Go.Pv.Tryd
open Go.Proofs Go.Pv
theorem m_cocketref01_lowest_ok (n1 : Big) (d1 : Big) (r : Q) (h : m_cocketref01_lowest n1 d1 = some r) : PureFn Tryd.prog G 72 [.d (.agg [(.bool n1.Neg), (.imm 1 (lenc (PD.int .i64) n1.D))]), .d (.agg [(.bool d1.Neg), (.imm 1 (lenc (PD.int .i64) d1.D))])] (.d (.agg [(.bool r.N.Neg), (.imm 1 (lenc (PD.int .i64) r.N.D)), (.bool r.D.Neg), (.imm 1 (lenc (PD.int .i64) r.D.D))])) := by
 unfold m_cocketref01_lowest at h
 refine pf Tryd.func72 Tryd.ntmps72 ?_
 refine sg fun K k => ?_
 iterate 3 refine oo ?_
 refine AOps.nil (k _ ?_)
 refine jn (α := (Big × Big)) [4] [1002] (fun i t => (2, .ptr 1000 0 0) :: (3, .ptr 1001 0 0) :: t) (fun i t => (1000, ⟨57, 2, [.d (.agg [(.bool i.1.Neg), (.imm 1 (lenc (PD.int .i64) i.1.D))])]⟩) :: (1001, ⟨57, 2, [.d (.agg [(.bool i.2.Neg), (.imm 1 (lenc (PD.int .i64) i.2.D))])]⟩) :: t) h ?_ ?_
 ·intro _ hj_2
  refine sg fun K k => ?_
  iterate 2 refine oo ?_
  refine AOps.nil (k _ ?_)
  refine cd hj_2 (fun hj_2 => ?_) (fun hj_2 => ?_)
  ·refine sg fun K k => ?_
   refine oo ?_
   obtain ⟨r1, hx_4, hj_2⟩ := bind_some hj_2
   refine cl (m_cocketref01_Neg_ok n1 _ hx_4) ?_
   refine oo ?_
   refine AOps.nil (k _ ?_)
   refine AWp.reg ?_
   refine oo ?_
   obtain ⟨r2, hx_5, hj_2⟩ := bind_some hj_2
   refine cl (m_cocketref01_Neg_ok d1 _ hx_5) ?_
   refine oo ?_
   refine AOps.nil ?_
   cases hj_2; exact sb
  ·refine AWp.skip ?_
   cases hj_2; exact sb
 ·rintro ⟨c1, c2⟩ h; dsimp only at h ⊢
  refine sg fun K k => ?_
  iterate 4 refine oo ?_
  obtain ⟨r3, hx_6, h⟩ := bind_some h
  refine cl (m_cocketref01_gcdD_ok c1.D c2.D _ hx_6) ?_
  obtain ⟨r4, hx_7, h⟩ := bind_some h
  refine cl (m_cocketref01_whole_ok false r3 _ hx_7) ?_
  iterate 2 refine oo ?_
  refine AOps.nil (k _ ?_)
  refine sg fun K k => ?_
  iterate 2 refine oo ?_
  obtain ⟨r5, hx_8, h⟩ := bind_some h
  refine cl (m_cocketref01_Over_ok c1 r4 _ hx_8) ?_
  iterate 7 refine oo ?_
  refine AOps.nil (k _ ?_)
  refine sg fun K k => ?_
  iterate 2 refine oo ?_
  obtain ⟨r6, hx_9, h⟩ := bind_some h
  refine cl (m_cocketref01_Over_ok c2 r4 _ hx_9) ?_
  iterate 7 refine oo ?_
  refine AOps.nil (k _ ?_)
  refine sg fun K k => ?_
  iterate 4 refine oo ?_
  refine AOps.nil (k _ ?_)
  refine AWp.ret ?_
  cases h; exact rt
end Go.Pv.Tryd

namespace Go.Pv.Tryd
open Go.Proofs Go.Pv
theorem m_cocketref01_Frac_ok (n1 : Int) (d1 : Int) (r : Q) (h : m_cocketref01_Frac n1 d1 = some r) : PureFn Tryd.prog G 41 [.d (.int .i64 n1), .d (.int .i64 d1)] (.d (.agg [(.bool r.N.Neg), (.imm 1 (lenc (PD.int .i64) r.N.D)), (.bool r.D.Neg), (.imm 1 (lenc (PD.int .i64) r.D.D))])) := by
 unfold m_cocketref01_Frac at h
 refine pf Tryd.func41 Tryd.ntmps41 ?_
 refine sg fun K k => ?_
 refine oo ?_
 refine AOps.nil (k _ ?_)
 refine sg fun K k => ?_
 refine oo ?_
 obtain ⟨r1, hx_1, h⟩ := bind_some h
 refine cl (m_cocketref01_Of_ok n1 _ hx_1) ?_
 refine oo ?_
 obtain ⟨r2, hx_2, h⟩ := bind_some h
 refine cl (m_cocketref01_Of_ok d1 _ hx_2) ?_
 obtain ⟨r3, hx_3, h⟩ := bind_some h
 refine cl (m_cocketref01_lowest_ok r1 r2 _ hx_3) ?_
 refine oo ?_
 refine AOps.nil (k _ ?_)
 refine AWp.ret ?_
 cases h; exact rt
end Go.Pv.Tryd

namespace Go.Pv.Tryd
open Go.Proofs Go.Pv
theorem m_cocketref01_Times_ok (a1 : Big) (b1 : Big) (r : Big) (h : m_cocketref01_Times a1 b1 = some r) : PureFn Tryd.prog G 71 [.d (.agg [(.bool a1.Neg), (.imm 1 (lenc (PD.int .i64) a1.D))]), .d (.agg [(.bool b1.Neg), (.imm 1 (lenc (PD.int .i64) b1.D))])] (.d (.agg [(.bool r.Neg), (.imm 1 (lenc (PD.int .i64) r.D))])) := by
 unfold m_cocketref01_Times at h
 refine pf Tryd.func71 Tryd.ntmps71 ?_
 refine sg fun K k => ?_
 iterate 3 refine oo ?_
 refine AOps.nil (k _ ?_)
 refine sd mo fun K k => ?_
 iterate 9 refine dd ?_
 obtain ⟨r1, hx_1, h⟩ := bind_some h
 refine dcl (m_cocketref01_mulD_ok a1.D b1.D _ hx_1) ?_
 obtain ⟨r2, hx_2, h⟩ := bind_some h
 refine dcl (m_cocketref01_whole_ok (!(a1.Neg == b1.Neg)) r1 _ hx_2) ?_
 refine dd ?_
 refine DOps.nil (by kernel_rfl) (k _ ?_)
 refine AWp.ret ?_
 cases h; exact rt
end Go.Pv.Tryd

namespace Go.Pv.Tryd
open Go.Proofs Go.Pv
theorem m_cocketref01_Mul_ok (a1 : Q) (b1 : Q) (r : Q) (h : m_cocketref01_Mul a1 b1 = some r) : PureFn Tryd.prog G 43 [.d (.agg [(.bool a1.N.Neg), (.imm 1 (lenc (PD.int .i64) a1.N.D)), (.bool a1.D.Neg), (.imm 1 (lenc (PD.int .i64) a1.D.D))]), .d (.agg [(.bool b1.N.Neg), (.imm 1 (lenc (PD.int .i64) b1.N.D)), (.bool b1.D.Neg), (.imm 1 (lenc (PD.int .i64) b1.D.D))])] (.d (.agg [(.bool r.N.Neg), (.imm 1 (lenc (PD.int .i64) r.N.D)), (.bool r.D.Neg), (.imm 1 (lenc (PD.int .i64) r.D.D))])) := by
 unfold m_cocketref01_Mul at h
 refine pf Tryd.func43 Tryd.ntmps43 ?_
 refine sg fun K k => ?_
 iterate 3 refine oo ?_
 refine AOps.nil (k _ ?_)
 refine sd mo fun K k => ?_
 iterate 4 refine dd ?_
 obtain ⟨r1, hx_1, h⟩ := bind_some h
 refine dcl (m_cocketref01_Times_ok a1.N b1.N _ hx_1) ?_
 iterate 4 refine dd ?_
 obtain ⟨r2, hx_2, h⟩ := bind_some h
 refine dcl (m_cocketref01_Times_ok a1.D b1.D _ hx_2) ?_
 obtain ⟨r3, hx_3, h⟩ := bind_some h
 refine dcl (m_cocketref01_lowest_ok r1 r2 _ hx_3) ?_
 refine dd ?_
 refine DOps.nil (by kernel_rfl) (k _ ?_)
 refine AWp.ret ?_
 cases h; exact rt
end Go.Pv.Tryd

namespace Go.Proofs
open Go.Shelf
def Tryd.lays189_ren : Go.Shelf.Ren := ⟨fun | 189 => 74 | 125 => 90 | 257 => 89 | 128 => 111 | 129 => 112 | 294 => 102 | 295 => 103 | 296 => 104 | 297 => 105 | 298 => 106 | 299 => 107 | 216 => 108 | 300 => 109 | 301 => 110 | 328 => 114 | 329 => 115 | 330 => 116 | 331 => 117 | 332 => 118 | 215 => 113 | 343 => 119 | n => n, fun | 28 => 27 | 3 => 3 | 46 => 118 | 0 => 0 | 51 => 140 | 53 => 100 | 4 => 4 | 183 => 133 | 182 => 132 | 131 => 111 | 5 => 5 | 9 => 9 | 218 => 142 | 222 => 146 | 228 => 148 | 229 => 149 | n => n, fun | n => n⟩
theorem Tryd.lays189 : Go.Proofs.Lays.n189 Tryd.prog Tryd.lays189_ren := {
  mixed := by kernel_rfl
  f125 := Tryd.func90.trans (congrArg some (by kernel_rfl))
  f128 := Tryd.func111.trans (congrArg some (by kernel_rfl))
  f129 := Tryd.func112.trans (congrArg some (by kernel_rfl))
  f189 := Tryd.func74.trans (congrArg some (by kernel_rfl))
  f215 := Tryd.func113.trans (congrArg some (by kernel_rfl))
  f216 := Tryd.func108.trans (congrArg some (by kernel_rfl))
  f257 := Tryd.func89.trans (congrArg some (by kernel_rfl))
  f294 := Tryd.func102.trans (congrArg some (by kernel_rfl))
  f295 := Tryd.func103.trans (congrArg some (by kernel_rfl))
  f296 := Tryd.func104.trans (congrArg some (by kernel_rfl))
  f297 := Tryd.func105.trans (congrArg some (by kernel_rfl))
  f298 := Tryd.func106.trans (congrArg some (by kernel_rfl))
  f299 := Tryd.func107.trans (congrArg some (by kernel_rfl))
  f300 := Tryd.func109.trans (congrArg some (by kernel_rfl))
  f301 := Tryd.func110.trans (congrArg some (by kernel_rfl))
  f328 := Tryd.func114.trans (congrArg some (by kernel_rfl))
  f329 := Tryd.func115.trans (congrArg some (by kernel_rfl))
  f330 := Tryd.func116.trans (congrArg some (by kernel_rfl))
  f331 := Tryd.func117.trans (congrArg some (by kernel_rfl))
  f332 := Tryd.func118.trans (congrArg some (by kernel_rfl))
  f343 := Tryd.func119.trans (congrArg some (by kernel_rfl))
  t0 := Tryd.underlying0
  a0 := Tryd.isAgg0
  z0 := Tryd.sizeOf0
  v0 := Tryd.zeroValue0
  t3 := Tryd.underlying3
  a3 := Tryd.isAgg3
  z3 := Tryd.sizeOf3
  v3 := Tryd.zeroValue3
  t4 := Tryd.underlying4
  a4 := Tryd.isAgg4
  z4 := Tryd.sizeOf4
  v4 := Tryd.zeroValue4
  t5 := Tryd.underlying5
  a5 := Tryd.isAgg5
  z5 := Tryd.sizeOf5
  v5 := Tryd.zeroValue5
  t9 := Tryd.underlying9
  a9 := Tryd.isAgg9
  z9 := Tryd.sizeOf9
  v9 := Tryd.zeroValue9
  t28 := Tryd.underlying27
  a28 := Tryd.isAgg27
  z28 := Tryd.sizeOf27
  v28 := Tryd.zeroValue27
  t46 := Tryd.underlying118
  a46 := Tryd.isAgg118
  z46 := Tryd.sizeOf118
  v46 := Tryd.zeroValue118
  t51 := Tryd.underlying140
  a51 := Tryd.isAgg140
  z51 := Tryd.sizeOf140
  v51 := Tryd.zeroValue140
  t53 := Tryd.underlying100
  a53 := Tryd.isAgg100
  z53 := Tryd.sizeOf100
  v53 := Tryd.zeroValue100
  t131 := Tryd.underlying111
  a131 := Tryd.isAgg111
  z131 := Tryd.sizeOf111
  v131 := Tryd.zeroValue111
  t182 := Tryd.underlying132
  a182 := Tryd.isAgg132
  z182 := Tryd.sizeOf132
  v182 := Tryd.zeroValue132
  t183 := Tryd.underlying133
  a183 := Tryd.isAgg133
  z183 := Tryd.sizeOf133
  v183 := Tryd.zeroValue133
  t218 := Tryd.underlying142
  a218 := Tryd.isAgg142
  z218 := Tryd.sizeOf142
  v218 := Tryd.zeroValue142
  t222 := Tryd.underlying146
  a222 := Tryd.isAgg146
  z222 := Tryd.sizeOf146
  v222 := Tryd.zeroValue146
  t228 := Tryd.underlying148
  a228 := Tryd.isAgg148
  z228 := Tryd.sizeOf148
  v228 := Tryd.zeroValue148
  t229 := Tryd.underlying149
  a229 := Tryd.isAgg149
  z229 := Tryd.sizeOf149
  v229 := Tryd.zeroValue149 }
open Go.Sort Go.RowKit in
theorem Tryd.slices_Sort_int (blk off cap : Nat) (zs : List Int) (w : World) (hH : Holds (Value.int .i64) w blk off zs.toArray) (hblk : blk < w.heap.size) (hsz : zs.length < 4611686018427387904) :
    Calls Tryd.prog 74 #[.slice (some ⟨blk, off, none⟩) zs.length cap] w fun e w' =>
      e = .returned (.tuple #[]) ∧ ∃ n os, w' = grow (putRow (Value.int .i64) (Sort.ahead w n) blk off (zs.mergeSort fun x y => decide (x ≤ y)).toArray) os := Any.slices_Sort_int Tryd.lays189 blk off cap zs w hH hblk hsz
def Tryd.laysNm220_ren : Go.Shelf.Ren := ⟨fun | 20 => 75 | n => n, fun | 22 => 27 | 3 => 3 | 4 => 4 | 0 => 0 | n => n, fun | n => n⟩
theorem Tryd.laysNm220 : Go.Proofs.Lays2.n20 Tryd.prog Tryd.laysNm220_ren := {
  mixed := by kernel_rfl
  f20 := Tryd.func75.trans (congrArg some (by kernel_rfl))
  t0 := Tryd.underlying0
  a0 := Tryd.isAgg0
  z0 := Tryd.sizeOf0
  v0 := Tryd.zeroValue0
  t3 := Tryd.underlying3
  a3 := Tryd.isAgg3
  z3 := Tryd.sizeOf3
  v3 := Tryd.zeroValue3
  t4 := Tryd.underlying4
  a4 := Tryd.isAgg4
  z4 := Tryd.sizeOf4
  v4 := Tryd.zeroValue4
  t22 := Tryd.underlying27
  a22 := Tryd.isAgg27
  z22 := Tryd.sizeOf27
  v22 := Tryd.zeroValue27
  i3 := by kernel_rfl }
open Go.RowKit Go.Lib Go.Sort in
theorem Tryd.slices_Compact_int (blk off cap : Nat) (zs : List Int) (w : World) (hH : Holds (Value.int .i64) w blk off zs.toArray) (hsz : zs.length ≤ 9223372036854775807) (hcap : zs.length ≤ cap) :
    Calls Tryd.prog 75 #[.slice (some ⟨blk, off, none⟩) zs.length cap] w fun e w' => e = .returned (.slice (some ⟨blk, off, none⟩) (Lib.compact zs).length cap) ∧ ∃ q, w' = putRow (Value.int .i64) (Sort.ahead w q) blk off (Lib.compact zs ++ List.replicate (zs.length - (Lib.compact zs).length) 0).toArray := Any.slices_Compact_int Tryd.laysNm220 blk off cap zs w hH hsz hcap
open Go.RowKit Go.Lib Go.Sort in
theorem Tryd.slices_Compact_int_empty (a : Option Addr) (cap : Nat) (w : World) :
    Calls Tryd.prog 75 #[.slice a 0 cap] w fun e w' => e = .returned (.slice a 0 cap) ∧ w' = w := Any.slices_Compact_int_empty Tryd.laysNm220 a cap w
theorem Tryd.slices_Sort_int_none (p : Option Addr) (cap : Nat) (w : World) :
    Calls Tryd.prog 74 #[.slice p 0 cap] w fun e w' => e = .returned (.tuple #[]) ∧ w' = w := Any.slices_Sort_int_none Tryd.lays189 p cap w
end Go.Proofs

namespace Go.Pv
open Go.Lib Go.Sort
theorem compactUpTo_le (d : Array Int) : ∀ m : Nat, (compactUpTo d m).length ≤ m
  | 0 => by simp [compactUpTo]
  | m + 1 => by
    rw [compactUpTo_succ, List.length_append]
    have := compactUpTo_le d m
    split <;> simp <;> omega
theorem compactI_le (l : List Int) : (compactI l).length ≤ l.length := by unfold compactI compact; exact compactUpTo_le _ _
theorem compactP_length (l : List Int) : (compactP l).length = l.length := by
  have := compactI_le l
  unfold compactP; simp; omega
theorem rep_i64 (w : World) (ok : Nat → Prop) (x : Int) : RepD w ok (.int .i64 x) (.int .i64 x) := .int .i64 x
theorem un_i64 (w : World) (X : Nat → Prop) (φ : Nm) (H : Heap) (v : Value) (x : Int) (h : RepV w X φ H v (.d (.int .i64 x))) : v = .int .i64 x := by cases h with | d h => cases h; rfl
namespace Tryd
open Go.Proofs
theorem one_arg {vs : List Value} {p : PV} (h : vs.length = [p].length) : ∃ v, vs = [v] := by
  match vs, h with
  | [v], _ => exact ⟨v, rfl⟩
theorem sort_hand (L : List Int) (hL : L.length ≤ 4294967296) : HandFn Tryd.prog G 74 [.slc 0 0 L.length] 0 3 1 (lenc (PD.int .i64) L) (.tuple []) (lenc (PD.int .i64) (sortI L)) := by
  intro B φ vs h0 h1 h2 h3
  obtain ⟨v, rfl⟩ := one_arg h1
  have hv : RepV B.w0 B.X φ [(0, ⟨3, 1, dl (lenc (PD.int .i64) L)⟩)] v (.slc 0 0 L.length) := h2 0 (by simp)
  have hlen : (lenc (PD.int .i64) (sortI L)).length = (lenc (PD.int .i64) L).length := by simp [lenc, sortI_length]
  generalize hn : L.length = n at hv
  cases hv with
  | slc hx hb h4 h5 h6 h7 =>
    rename_i cap b x
    obtain ⟨_, rfl⟩ := hget1 hx
    obtain ⟨hH, hlt⟩ := h3.holds (enc := Value.int .i64) (pd := PD.int .i64) un_i64 (fun _ => rfl) hb
    have hc := Tryd.slices_Sort_int b 0 cap L B.w0 hH hlt (by omega)
    rw [hn] at hc
    have e0 : (0 : Nat) * (⟨3, 1, dl (lenc (PD.int .i64) L)⟩ : Row).k = 0 := Nat.zero_mul _
    rw [e0]
    refine (callsIn_wide.2 hc).mono ?_
    rintro e w' ⟨rfl, m, os, rfl⟩
    refine ⟨_, .tuple [], [(0, ⟨3, 1, dl (lenc (PD.int .i64) (sortI L))⟩)], none, φ, rfl, ⟨rfl, rfl, hlen⟩, .tuple rfl (fun i hi => by simp at hi), ?_⟩
    have := h3.putRow (enc := Value.int .i64) (pd := PD.int .i64) (L' := sortI L) rep_i64 (fun _ => rfl) h0 (sortI_length L) hb m os
    unfold sortI at this ⊢
    exact this
  | slc0 hx hb hp =>
    rename_i x p
    have hL0 : L = [] := List.length_eq_zero_iff.1 hn
    subst hL0
    refine (callsIn_wide.2 (Tryd.slices_Sort_int_none p 0 B.w0)).mono ?_
    rintro e w' ⟨rfl, rfl⟩
    have e1 : sortI [] = [] := List.length_eq_zero_iff.1 (by rw [sortI_length]; rfl)
    refine ⟨_, .tuple [], [(0, ⟨3, 1, dl (lenc (PD.int .i64) (sortI []))⟩)], none, φ, rfl, ⟨rfl, rfl, hlen⟩, .tuple rfl (fun i hi => by simp at hi), ?_⟩
    rw [e1]; exact h3
theorem compact_hand (L : List Int) (hL : L.length ≤ 4294967296) : HandFn Tryd.prog G 75 [.slc 0 0 L.length] 0 3 1 (lenc (PD.int .i64) L) (.slc 0 0 (compactI L).length) (lenc (PD.int .i64) (compactP L)) := by
  intro B φ vs h0 h1 h2 h3
  obtain ⟨v, rfl⟩ := one_arg h1
  have hv : RepV B.w0 B.X φ [(0, ⟨3, 1, dl (lenc (PD.int .i64) L)⟩)] v (.slc 0 0 L.length) := h2 0 (by simp)
  have hlen : (lenc (PD.int .i64) (compactP L)).length = (lenc (PD.int .i64) L).length := by simp [lenc, compactP_length]
  have hle := compactI_le L
  generalize hn : L.length = n at hv
  cases hv with
  | slc hx hb h4 h5 h6 h7 =>
    rename_i cap b x
    obtain ⟨_, rfl⟩ := hget1 hx
    obtain ⟨hH, hlt⟩ := h3.holds (enc := Value.int .i64) (pd := PD.int .i64) un_i64 (fun _ => rfl) hb
    have hc := Tryd.slices_Compact_int b 0 cap L B.w0 hH (by omega) (by omega)
    rw [hn] at hc
    have e0 : (0 : Nat) * (⟨3, 1, dl (lenc (PD.int .i64) L)⟩ : Row).k = 0 := Nat.zero_mul _
    rw [e0]
    refine (callsIn_wide.2 hc).mono ?_
    rintro e w' ⟨rfl, m, rfl⟩
    have hs := h3.putRow (enc := Value.int .i64) (pd := PD.int .i64) (L' := compactP L) rep_i64 (fun _ => rfl) h0 (compactP_length L) hb m #[]
    have eg : ∀ w : World, grow w #[] = w := fun w => by simp [grow]
    rw [eg] at hs
    have hx' : hget ([(0, ⟨3, 1, dl (lenc (PD.int .i64) (compactP L))⟩)] : Heap) 0 = some ⟨3, 1, dl (lenc (PD.int .i64) (compactP L))⟩ := rfl
    have hll : (dl (lenc (PD.int .i64) (compactP L))).length = L.length := by simp [dl, lenc, compactP_length]
    have hll0 : (dl (lenc (PD.int .i64) L)).length = L.length := by simp [dl, lenc]
    dsimp only at h4 h6 h7
    rw [hll0] at h4 h6
    refine ⟨_, .slc 0 0 (compactI L).length, [(0, ⟨3, 1, dl (lenc (PD.int .i64) (compactP L))⟩)], none, φ, rfl, ⟨rfl, rfl, hlen⟩, ?_, ?_⟩
    · have hr : RepV (Sort.putRow (Value.int .i64) (Sort.ahead B.w0 m) b 0 (compactP L).toArray) B.X φ [(0, ⟨3, 1, dl (lenc (PD.int .i64) (compactP L))⟩)] (.slice (some ⟨b, 0 * (⟨3, 1, dl (lenc (PD.int .i64) (compactP L))⟩ : Row).k, none⟩) (compactI L).length cap) (.slc 0 0 (compactI L).length) :=
        .slc hx' hb (by dsimp only; rw [hll]; omega) (by omega) (by dsimp only; rw [hll]; omega) (fun c e f hh => by
          rw [heap_putRow, if_pos rfl] at hh
          obtain ⟨ob, ho1, ho2⟩ := Option.map_eq_some_iff.1 hh
          cases ob with
          | cells c0 e0 f0 =>
            simp only [onCells, Obj.cells.injEq] at ho2
            have := h7 c0 e0 f0 ho1
            rw [← ho2.1]
            simpa [putCells] using this
          | _ => simp [onCells] at ho2)
      rw [Nat.zero_mul] at hr
      unfold compactP compactI at hr ⊢
      rw [hn] at hr ⊢
      exact hr
    · unfold compactP compactI at hs ⊢
      rw [hn] at hs ⊢
      exact hs
  | slc0 hx hb hp =>
    rename_i x p
    have hL0 : L = [] := List.length_eq_zero_iff.1 hn
    subst hL0
    refine (callsIn_wide.2 (Tryd.slices_Compact_int_empty p 0 B.w0)).mono ?_
    rintro e w' ⟨rfl, rfl⟩
    have e1 : compactP [] = [] := List.length_eq_zero_iff.1 (by rw [compactP_length]; rfl)
    have e2 : (compactI []).length = 0 := by have := compactI_le []; simp at this; simp [this]
    refine ⟨_, .slc 0 0 (compactI []).length, [(0, ⟨3, 1, dl (lenc (PD.int .i64) (compactP []))⟩)], none, φ, rfl, ⟨rfl, rfl, hlen⟩, ?_, ?_⟩
    · rw [e1, e2]; exact .slc0 hx hb hp
    · rw [e1]; exact h3
end Tryd
end Go.Pv

namespace Go.Pv.Tryd
open Go.Proofs Go.Pv
theorem m_rate_Gains_ok (n1 : Int) (offers1 : (List Offer)) (list1 : (List Int)) (r : (Bool × Int)) (h : m_rate_Gains n1 offers1 list1 = some r) : PureFn Tryd.prog G 44 [.d (.int .i64 n1), .d (.imm 4 (lenc Offer.pd offers1)), .d (.imm 1 (lenc (PD.int .i64) list1))] (.tuple [.d (.bool r.1), .d (.int .i64 r.2)]) := by
 unfold m_rate_Gains at h
 refine pf Tryd.func44 Tryd.ntmps44 ?_
 refine sg fun K k => ?_
 iterate 2 refine oo ?_
 refine AOps.nil (k _ ?_)
 refine sg fun K k => ?_
 iterate 2 refine oo ?_
 obtain ⟨r1, hx_1, h⟩ := bind_some h
 refine cl (m_rate_of_ok n1 offers1 _ hx_1) ?_
 iterate 6 refine oo ?_
 refine AOps.nil (k _ ?_)
 refine AWp.seq fun _ K_2 => ?_
 refine sg fun K k => ?_
 iterate 2 refine oo ?_
 refine AOps.nil (k _ ?_)
 refine cd h (fun h => ?_) (fun h => ?_)
 ·refine sg fun K k => ?_
  iterate 3 refine oo ?_
  refine AOps.nil (k _ ?_)
  refine AWp.ret ?_
  cases h; exact rt
 ·refine AWp.skip ?_
  refine K_2 _ ?_
  refine AWp.seq fun _ K_4 => ?_
  refine sg fun K k => ?_
  iterate 4 refine oo ?_
  refine ct 5 [2, 8] [1000] (fun  t => (30, .d (.bool ((decide ((list1.length : Int) = 0)) || (decide (n1 < (list1.length : Int)))))) :: t) ?_ ?_
  ·rcases bt (decide ((list1.length : Int) = 0)) with hg_6 | hg_6
   ·rw [hg_6]
    iterate 5 refine oo ?_
    refine AOps.nil ?_
    exact sb
   ·rw [hg_6]
    iterate 5 refine oo ?_
    refine AOps.nil ?_
    exact sb
  refine AOps.nil (k _ ?_)
  refine cd h (fun h => ?_) (fun h => ?_)
  ·refine sg fun K k => ?_
   iterate 2 refine oo ?_
   refine AOps.nil (k _ ?_)
   refine AWp.ret ?_
   cases h; exact rt
  ·refine AWp.skip ?_
   refine K_4 _ ?_
   refine sg fun K k => ?_
   iterate 2 refine oo ?_
   obtain ⟨r2, hx_8, h⟩ := bind_some h
   refine clN 1001 (m_rate_market_follow_ok r1.1 list1 _ hx_8) ?_
   iterate 8 refine oo ?_
   refine AOps.nil (k _ ?_)
   refine AWp.seq fun _ K_9 => ?_
   refine sd mo fun K k => ?_
   iterate 3 refine dd ?_
   rcases bt (!r2.2.2) with hg_10 | hg_10
   ·rw [hg_10]
    rw [hg_10, cond_true] at h
    iterate 11 refine dd ?_
    refine DOps.nil (by kernel_rfl) (k _ ?_)
    refine cdt ?_
    refine sg fun K k => ?_
    iterate 2 refine oo ?_
    refine AOps.nil (k _ ?_)
    refine AWp.ret ?_
    cases h; exact rt
   ·rw [hg_10]
    rw [hg_10, cond_false] at h
    obtain ⟨e1, ⟨f_17, f_18, f_19, f_20⟩, h⟩ := idx_bind h
    try simp only [Int.reduceToNat] at f_19 f_20
    iterate 2 refine dd ?_
    refine dd ?_ (by intro K k; simp (disch := omega) only [go_sem, f_19, ↓reduceIte]; exact k)
    obtain ⟨e2, ⟨f_21, f_22, f_23, f_24⟩, h⟩ := idx_bind h
    try simp only [Int.toNat_natCast] at f_23 f_24
    iterate 5 refine dd ?_
    refine dd ?_ (by intro K k; simp (disch := omega) only [go_sem, f_23, ↓reduceIte]; exact k)
    iterate 2 refine dd ?_
    refine DOps.nil (by kernel_rfl) (k _ ?_)
    refine cd h (fun h => ?_) (fun h => ?_)
    ·refine sg fun K k => ?_
     iterate 2 refine oo ?_
     refine AOps.nil (k _ ?_)
     refine AWp.ret ?_
     cases h; exact rt
    ·refine AWp.skip ?_
     refine K_9 _ ?_
     refine sg fun K k => ?_
     obtain ⟨hg_26, h⟩ := guardO_some h
     refine oo ?_
     refine clH 1001 (sort_hand r2.2.1 hg_26) ?_
     refine AOps.nil (k _ ?_)
     refine sg fun K k => ?_
     obtain ⟨hg_27, h⟩ := guardO_some h
     refine oo ?_
     refine clH 1001 (compact_hand (sortI r2.2.1) hg_27) ?_
     iterate 5 refine oo ?_
     obtain ⟨b2, hc_28, h⟩ := bind_some h
     refine ct 4 [] [] (fun  t => (64, .d (.bool b2)) :: t) ?_ ?_
     ·rcases bt (decide (((compactI (sortI r2.2.1)).length : Int) = (list1.length : Int))) with hg_30 | hg_30
      ·rw [hg_30]
       rw [hg_30, cond_true] at hc_28
       iterate 2 refine oo ?_
       obtain ⟨r4, hx_29, hc_28⟩ := bind_some hc_28
       refine cl (m_rate_above_ok r2.1 (⟨1, 1⟩ : Ratio) _ hx_29) ?_
       refine oo ?_
       refine AOps.nil ?_
       cases hc_28
       exact sb
      ·rw [hg_30]
       rw [hg_30, cond_false] at hc_28
       iterate 4 refine oo ?_
       refine AOps.nil ?_
       cases hc_28
       exact sb
     iterate 2 refine oo ?_
     refine AOps.nil (k _ ?_)
     refine AWp.ret ?_
     cases h; exact rt
end Go.Pv.Tryd

namespace Go.Pv.Tryd
open Go.Proofs Go.Pv
theorem m_cocketref01_Compare_ok (a1 : Big) (b1 : Big) (r : Int) (h : m_cocketref01_Compare a1 b1 = some r) : PureFn Tryd.prog G 70 [.d (.agg [(.bool a1.Neg), (.imm 1 (lenc (PD.int .i64) a1.D))]), .d (.agg [(.bool b1.Neg), (.imm 1 (lenc (PD.int .i64) b1.D))])] (.d (.int .i64 r)) := by
 unfold m_cocketref01_Compare at h
 refine pf Tryd.func70 Tryd.ntmps70 ?_
 refine sg fun K k => ?_
 iterate 3 refine oo ?_
 refine AOps.nil (k _ ?_)
 refine AWp.seq fun _ K_1 => ?_
 refine sg fun K k => ?_
 iterate 5 refine oo ?_
 refine AOps.nil (k _ ?_)
 refine cd h (fun h => ?_) (fun h => ?_)
 ·refine AWp.seq fun _ K_3 => ?_
  refine sg fun K k => ?_
  iterate 2 refine oo ?_
  refine AOps.nil (k _ ?_)
  refine cd h (fun h => ?_) (fun h => ?_)
  ·refine sg fun K k => ?_
   refine oo ?_
   refine AOps.nil (k _ ?_)
   refine AWp.ret ?_
   cases h; exact rt
  ·refine AWp.skip ?_
   refine K_3 _ ?_
   refine sg fun K k => ?_
   refine oo ?_
   refine AOps.nil (k _ ?_)
   refine AWp.ret ?_
   cases h; exact rt
 ·refine AWp.skip ?_
  refine K_1 _ ?_
  refine sg fun K k => ?_
  iterate 4 refine oo ?_
  obtain ⟨r1, hx_5, h⟩ := bind_some h
  refine cl (m_cocketref01_cmpD_ok a1.D b1.D _ hx_5) ?_
  refine oo ?_
  refine AOps.nil (k _ ?_)
  refine AWp.seq fun _ K_6 => ?_
  refine sg fun K k => ?_
  iterate 2 refine oo ?_
  refine AOps.nil (k _ ?_)
  refine cd h (fun h => ?_) (fun h => ?_)
  ·refine sg fun K k => ?_
   iterate 3 refine oo ?_
   refine AOps.nil (k _ ?_)
   refine AWp.ret ?_
   cases h; exact rt
  ·refine AWp.skip ?_
   refine K_6 _ ?_
   refine sg fun K k => ?_
   iterate 2 refine oo ?_
   refine AOps.nil (k _ ?_)
   refine AWp.ret ?_
   cases h; exact rt
end Go.Pv.Tryd

namespace Go.Pv.Tryd
open Go.Proofs Go.Pv
theorem m_cocketref01_Cmp_ok (a1 : Q) (b1 : Q) (r : Int) (h : m_cocketref01_Cmp a1 b1 = some r) : PureFn Tryd.prog G 38 [.d (.agg [(.bool a1.N.Neg), (.imm 1 (lenc (PD.int .i64) a1.N.D)), (.bool a1.D.Neg), (.imm 1 (lenc (PD.int .i64) a1.D.D))]), .d (.agg [(.bool b1.N.Neg), (.imm 1 (lenc (PD.int .i64) b1.N.D)), (.bool b1.D.Neg), (.imm 1 (lenc (PD.int .i64) b1.D.D))])] (.d (.int .i64 r)) := by
 unfold m_cocketref01_Cmp at h
 refine pf Tryd.func38 Tryd.ntmps38 ?_
 refine sg fun K k => ?_
 iterate 3 refine oo ?_
 refine AOps.nil (k _ ?_)
 refine sd mo fun K k => ?_
 iterate 4 refine dd ?_
 obtain ⟨r1, hx_1, h⟩ := bind_some h
 refine dcl (m_cocketref01_Times_ok a1.N b1.D _ hx_1) ?_
 iterate 4 refine dd ?_
 obtain ⟨r2, hx_2, h⟩ := bind_some h
 refine dcl (m_cocketref01_Times_ok b1.N a1.D _ hx_2) ?_
 obtain ⟨r3, hx_3, h⟩ := bind_some h
 refine dcl (m_cocketref01_Compare_ok r1 r2 _ hx_3) ?_
 refine dd ?_
 refine DOps.nil (by kernel_rfl) (k _ ?_)
 refine AWp.ret ?_
 cases h; exact rt
end Go.Pv.Tryd

namespace Go.Pv.Tryd
open Go.Proofs Go.Pv
set_option maxHeartbeats 4000000 in
theorem m_cocketlaw01_RateRounding_ok (n1 : Int) (l1 : (List Offer)) (walk1 : (List Int)) (amount1 : Int) (r : Bool) (h : m_cocketlaw01_RateRounding n1 l1 walk1 amount1 = some r) : PureFn Tryd.prog G 14 [.d (.int .i64 n1), .d (.imm 4 (lenc Offer.pd l1)), .d (.imm 1 (lenc (PD.int .i64) walk1)), .d (.int .i64 amount1)] (.d (.bool r)) := by
 unfold m_cocketlaw01_RateRounding at h
 refine pf Tryd.func14 Tryd.ntmps14 ?_
 refine sg fun K k => ?_
 refine oo ?_
 refine AOps.nil (k _ ?_)
 refine AWp.seq fun _ K_1 => ?_
 refine sg fun K k => ?_
 refine oo ?_
 obtain ⟨r1, hx_2, h⟩ := bind_some h
 refine cl (m_cocketlaw01_few_ok l1 _ hx_2) ?_
 iterate 2 refine oo ?_
 refine ct 4 [0, 1, 2, 3] [] (fun  t => (26, .d (.bool ((!r1) || (decide (40 < (walk1.length : Int)))))) :: t) ?_ ?_
 ·rcases bt (!r1) with hg_4 | hg_4
  ·rw [hg_4]
   iterate 4 refine oo ?_
   refine AOps.nil ?_
   exact sb
  ·rw [hg_4]
   iterate 4 refine oo ?_
   refine AOps.nil ?_
   exact sb
 refine AOps.nil (k _ ?_)
 refine cd h (fun h => ?_) (fun h => ?_)
 ·refine sg fun K k => ?_
  obtain ⟨r2, hx_6, h⟩ := bind_some h
  refine cl (m_cocketlaw01_alive_ok _ hx_6) ?_
  refine oo ?_
  refine AOps.nil (k _ ?_)
  refine AWp.ret ?_
  cases h; exact rt
 ·refine AWp.skip ?_
  refine K_1 _ ?_
  refine sg fun K k => ?_
  iterate 4 refine oo ?_
  obtain ⟨r3, hx_7, h⟩ := bind_some h
  refine cl (m_rate_Change_ok n1 l1 walk1 amount1 _ hx_7) ?_
  iterate 5 refine oo ?_
  refine AOps.nil (k _ ?_)
  refine AWp.seq fun _ K_8 => ?_
  refine sg fun K k => ?_
  iterate 2 refine oo ?_
  refine AOps.nil (k _ ?_)
  refine cd h (fun h => ?_) (fun h => ?_)
  ·refine sg fun K k => ?_
   iterate 3 refine oo ?_
   obtain ⟨b1, hc_10, h⟩ := bind_some h
   refine ct 2 [] [] (fun  t => (42, .d (.bool b1)) :: t) ?_ ?_
   ·rcases bt (decide (r3.1 = 0)) with hg_12 | hg_12
    ·rw [hg_12]
     rw [hg_12, cond_true] at hc_10
     obtain ⟨r4, hx_11, hc_10⟩ := bind_some hc_10
     refine cl (m_cocketlaw01_alive_ok _ hx_11) ?_
     refine oo ?_
     refine AOps.nil ?_
     cases hc_10
     exact sb
    ·rw [hg_12]
     rw [hg_12, cond_false] at hc_10
     iterate 2 refine oo ?_
     refine AOps.nil ?_
     cases hc_10
     exact sb
   refine oo ?_
   refine AOps.nil (k _ ?_)
   refine AWp.ret ?_
   cases h; exact rt
  ·refine AWp.skip ?_
   refine K_8 _ ?_
   refine sg fun K k => ?_
   obtain ⟨r5, hx_13, h⟩ := bind_some h
   refine cl (m_cocketref01_Frac_ok 1 1 _ hx_13) ?_
   iterate 2 refine oo ?_
   refine AOps.nil (k _ ?_)
   refine sg fun K k => ?_
   iterate 2 refine oo ?_
   refine AOps.nil (k _ ?_)
   refine jm (ι := (Int × Q)) [0, 1, 2, 3, 9] [] (fun i t => (11, .ptr 1000 0 0) :: (12, .d (.int .i64 i.1)) :: t) (fun i t => (1000, ⟨59, 4, [.d (.agg [(.bool i.2.N.Neg), (.imm 1 (lenc (PD.int .i64) i.2.N.D)), (.bool i.2.D.Neg), (.imm 1 (lenc (PD.int .i64) i.2.D.D))])]⟩) :: t) .inl h ?_ ?_
   ·intro _ hj_15 h
    refine sg fun K k => ?_
    refine oo ?_
    refine AOps.nil (k _ ?_)
    refine AWp.block ?_
    obtain ⟨x_20, hl_17, h2_18⟩ := bind_some hj_15
    refine lp (S := (Int × Int × Q)) [0, 1, 2, 3, 9] [] (fun i t => (11, .ptr 1000 0 0) :: (12, .d (.int .i64 i.1)) :: (13, .d (.int .i64 i.2.1)) :: t) (fun i t => (1000, ⟨59, 4, [.d (.agg [(.bool i.2.2.N.Neg), (.imm 1 (lenc (PD.int .i64) i.2.2.N.D)), (.bool i.2.2.D.Neg), (.imm 1 (lenc (PD.int .i64) i.2.2.D.D))])]⟩) :: t) hl_17 ?_ ?_; exact sb; clear hl_17
    rintro ⟨now2, i1, c2⟩ _ hb_19; unfold m_cocketlaw01_RateRounding_l1 at hb_19; try dsimp only at hb_19
    try dsimp only
    refine AWp.seq fun _ K_22 => ?_
    refine sg fun K k => ?_
    iterate 4 refine oo ?_
    refine AOps.nil (k _ ?_)
    refine cd hb_19 (fun hb_19 => ?_) (fun hb_19 => ?_)
    ·refine AWp.skip ?_
     refine K_22 _ ?_
     refine AWp.seq fun _ K_24 => ?_
     refine AWp.block ?_
     refine sg fun K k => ?_
     obtain ⟨e1, ⟨f_25, f_26, f_27, f_28⟩, hb_19⟩ := idx_bind hb_19
     iterate 4 refine oo ?_
     refine oo ?_ (by intro K k; simp (disch := omega) only [go_sem, f_27, ↓reduceIte]; exact k)
     obtain ⟨e2, ⟨f_29, f_30, f_31, f_32⟩, hb_19⟩ := idx_bind hb_19
     refine oo ?_
     refine oo ?_ (by intro K k; simp (disch := omega) only [go_sem, f_31, ↓reduceIte]; exact k)
     iterate 2 refine oo ?_
     refine AOps.nil (k _ ?_)
     refine sd mo fun K k => ?_
     iterate 5 refine dd ?_
     obtain ⟨r6, hx_33, hb_19⟩ := bind_some hb_19
     refine dcl (m_cocketref01_Frac_ok e2.Num e2.Den _ hx_33) ?_
     obtain ⟨r7, hx_34, hb_19⟩ := bind_some hb_19
     refine dcl (m_cocketref01_Mul_ok c2 r6 _ hx_34) ?_
     refine dd ?_
     refine DOps.nil (by kernel_rfl) (k _ ?_)
     refine sg fun K k => ?_
     obtain ⟨e3, ⟨f_35, f_36, f_37, f_38⟩, hb_19⟩ := idx_bind hb_19
     iterate 5 refine oo ?_
     refine oo ?_ (by intro K k; simp (disch := omega) only [go_sem, f_37, ↓reduceIte]; exact k)
     refine ol ?_
     refine oo ?_
     obtain ⟨r8, hx_39, hb_19⟩ := bind_some hb_19
     refine cl (m_rate_Change_ok n1 l1 [e3] now2 _ hx_39) ?_
     iterate 5 refine oo ?_
     refine AOps.nil (k _ ?_)
     refine AWp.seq fun _ K_40 => ?_
     refine sg fun K k => ?_
     iterate 2 refine oo ?_
     refine AOps.nil (k _ ?_)
     refine cd hb_19 (fun hb_19 => ?_) (fun hb_19 => ?_)
     ·refine sg fun K k => ?_
      refine oo ?_
      refine AOps.nil (k _ ?_)
      refine AWp.ret ?_
      refine lx hb_19 fun hx => ?_; cases hx; try dsimp only at h2_18
      cases h2_18; try dsimp only at h
      cases h; exact rt
     ·refine AWp.skip ?_
      refine K_40 _ ?_
      refine AWp.reg ?_
      iterate 2 refine oo ?_
      refine AOps.nil ?_
      refine K_24 _ ?_
      refine AWp.reg ?_
      iterate 3 refine oo ?_
      refine AOps.nil ?_
      exact ln hb_19 sb
    ·refine AWp.exit ?_
     refine lx hb_19 fun hx => ?_; cases hx; try dsimp only at h2_18
     exact ln h2_18 sb
   ·rintro ⟨now1, c1⟩ h; dsimp only at h ⊢
    refine AWp.seq fun _ K_42 => ?_
    refine sd mo fun K k => ?_
    iterate 4 refine dd ?_
    rcases bt (decide (¬now1 = r3.1)) with hg_43 | hg_43
    ·rw [hg_43]
     rw [hg_43, cond_true] at h
     iterate 13 refine dd ?_
     refine DOps.nil (by kernel_rfl) (k _ ?_)
     refine cdt ?_
     refine sg fun K k => ?_
     refine oo ?_
     refine AOps.nil (k _ ?_)
     refine AWp.ret ?_
     cases h; exact rt
    ·rw [hg_43]
     rw [hg_43, cond_false] at h
     iterate 4 refine dd ?_
     rcases bt (decide (r3.1 < 0)) with hg_82 | hg_82
     ·rw [hg_82]
      rw [hg_82, cond_true] at h
      iterate 9 refine dd ?_
      refine DOps.nil (by kernel_rfl) (k _ ?_)
      refine cdt ?_
      refine sg fun K k => ?_
      refine oo ?_
      refine AOps.nil (k _ ?_)
      refine AWp.ret ?_
      cases h; exact rt
     ·rw [hg_82]
      rw [hg_82, cond_false] at h
      refine dd ?_
      obtain ⟨r27, hx_121, h⟩ := bind_some h
      refine dcl (m_cocketref01_Frac_ok r3.1 1 _ hx_121) ?_
      iterate 2 refine dd ?_
      obtain ⟨r28, hx_122, h⟩ := bind_some h
      refine dcl (m_cocketref01_Frac_ok amount1 1 _ hx_122) ?_
      obtain ⟨r29, hx_123, h⟩ := bind_some h
      refine dcl (m_cocketref01_Mul_ok c1 r28 _ hx_123) ?_
      obtain ⟨r30, hx_124, h⟩ := bind_some h
      refine dcl (m_cocketref01_Cmp_ok r27 r29 _ hx_124) ?_
      iterate 2 refine dd ?_
      refine DOps.nil (by kernel_rfl) (k _ ?_)
      refine cd h (fun h => ?_) (fun h => ?_)
      ·refine sg fun K k => ?_
       refine oo ?_
       refine AOps.nil (k _ ?_)
       refine AWp.ret ?_
       cases h; exact rt
      ·refine AWp.skip ?_
       refine K_42 _ ?_
       refine sg fun K k => ?_
       iterate 3 refine oo ?_
       obtain ⟨r31, hx_126, h⟩ := bind_some h
       refine cl (m_rate_Gains_ok n1 l1 walk1 _ hx_126) ?_
       iterate 5 refine oo ?_
       refine AOps.nil (k _ ?_)
       refine AWp.seq fun _ K_127 => ?_
       refine sd mo fun K k => ?_
       iterate 3 refine dd ?_
       rcases bt (decide (r31.2 = 0)) with hg_128 | hg_128
       ·rw [hg_128]
        rw [hg_128, cond_true] at h
        iterate 4 refine dd ?_
        rcases bt (!r31.1) with hg_129 | hg_129
        ·rw [hg_129]
         rw [hg_129, cond_true] at h
         iterate 5 refine dd ?_
         rcases bt (decide (0 < (walk1.length : Int))) with hg_130 | hg_130
         ·rw [hg_130]
          rw [hg_130, cond_true] at h
          obtain ⟨e12, ⟨f_131, f_132, f_133, f_134⟩, h⟩ := idx_bind h
          try simp only [Int.reduceToNat] at f_133 f_134
          iterate 3 refine dd ?_
          refine dd ?_ (by intro K k; simp (disch := omega) only [go_sem, f_133, ↓reduceIte]; exact k)
          obtain ⟨e13, ⟨f_135, f_136, f_137, f_138⟩, h⟩ := idx_bind h
          iterate 2 refine dd ?_
          refine dd ?_ (by intro K k; simp (disch := omega) only [go_sem, f_137, ↓reduceIte]; exact k)
          obtain ⟨e14, ⟨f_139, f_140, f_141, f_142⟩, h⟩ := idx_bind h
          try simp only [Int.toNat_natCast] at f_141 f_142
          iterate 6 refine dd ?_
          refine dd ?_ (by intro K k; simp (disch := omega) only [go_sem, f_141, ↓reduceIte]; exact k)
          obtain ⟨e15, ⟨f_143, f_144, f_145, f_146⟩, h⟩ := idx_bind h
          iterate 2 refine dd ?_
          refine dd ?_ (by intro K k; simp (disch := omega) only [go_sem, f_145, ↓reduceIte]; exact k)
          iterate 3 refine dd ?_
          rcases bt (decide (e13.From = e15.To)) with hg_147 | hg_147
          ·rw [hg_147]
           rw [hg_147, cond_true] at h
           refine dd ?_
           obtain ⟨r32, hx_148, h⟩ := bind_some h
           refine dcl (m_cocketref01_Frac_ok 1 1 _ hx_148) ?_
           obtain ⟨r33, hx_149, h⟩ := bind_some h
           refine dcl (m_cocketref01_Cmp_ok c1 r32 _ hx_149) ?_
           iterate 3 refine dd ?_
           rcases bt (decide (r33 ≤ 0)) with hg_150 | hg_150
           ·rw [hg_150]
            rw [hg_150, cond_true] at h
            iterate 4 refine dd ?_
            refine DOps.nil (by kernel_rfl) (k _ ?_)
            refine cd h (fun h => ?_) (fun h => ?_)
            ·refine sg fun K k => ?_
             refine oo ?_
             refine AOps.nil (k _ ?_)
             refine AWp.ret ?_
             cases h; exact rt
            ·refine AWp.skip ?_
             refine K_127 _ ?_
             refine sg fun K k => ?_
             obtain ⟨r34, hx_152, h⟩ := bind_some h
             refine cl (m_cocketlaw01_alive_ok _ hx_152) ?_
             refine oo ?_
             refine AOps.nil (k _ ?_)
             refine AWp.ret ?_
             cases h; exact rt
           ·rw [hg_150]
            rw [hg_150, cond_false] at h
            iterate 4 refine dd ?_
            refine DOps.nil (by kernel_rfl) (k _ ?_)
            refine cdf ?_
            refine AWp.skip ?_
            refine K_127 _ ?_
            refine sg fun K k => ?_
            obtain ⟨r35, hx_154, h⟩ := bind_some h
            refine cl (m_cocketlaw01_alive_ok _ hx_154) ?_
            refine oo ?_
            refine AOps.nil (k _ ?_)
            refine AWp.ret ?_
            cases h; exact rt
          ·rw [hg_147]
           rw [hg_147, cond_false] at h
           iterate 10 refine dd ?_
           refine DOps.nil (by kernel_rfl) (k _ ?_)
           refine cdf ?_
           refine AWp.skip ?_
           refine K_127 _ ?_
           refine sg fun K k => ?_
           obtain ⟨r36, hx_156, h⟩ := bind_some h
           refine cl (m_cocketlaw01_alive_ok _ hx_156) ?_
           refine oo ?_
           refine AOps.nil (k _ ?_)
           refine AWp.ret ?_
           cases h; exact rt
         ·rw [hg_130]
          rw [hg_130, cond_false] at h
          iterate 30 refine dd ?_
          refine DOps.nil (by kernel_rfl) (k _ ?_)
          refine cdf ?_
          refine AWp.skip ?_
          refine K_127 _ ?_
          refine sg fun K k => ?_
          obtain ⟨r37, hx_158, h⟩ := bind_some h
          refine cl (m_cocketlaw01_alive_ok _ hx_158) ?_
          refine oo ?_
          refine AOps.nil (k _ ?_)
          refine AWp.ret ?_
          cases h; exact rt
        ·rw [hg_129]
         rw [hg_129, cond_false] at h
         iterate 35 refine dd ?_
         refine DOps.nil (by kernel_rfl) (k _ ?_)
         refine cdf ?_
         refine AWp.skip ?_
         refine K_127 _ ?_
         refine sg fun K k => ?_
         obtain ⟨r38, hx_160, h⟩ := bind_some h
         refine cl (m_cocketlaw01_alive_ok _ hx_160) ?_
         refine oo ?_
         refine AOps.nil (k _ ?_)
         refine AWp.ret ?_
         cases h; exact rt
       ·rw [hg_128]
        rw [hg_128, cond_false] at h
        iterate 39 refine dd ?_
        refine DOps.nil (by kernel_rfl) (k _ ?_)
        refine cdf ?_
        refine AWp.skip ?_
        refine K_127 _ ?_
        refine sg fun K k => ?_
        obtain ⟨r39, hx_162, h⟩ := bind_some h
        refine cl (m_cocketlaw01_alive_ok _ hx_162) ?_
        refine oo ?_
        refine AOps.nil (k _ ?_)
        refine AWp.ret ?_
        cases h; exact rt
end Go.Pv.Tryd

namespace Go.Pv.Tryd
open Go Go.Proofs Go.Pv Go.ChangeShapes Go.WideShapes Go.ChangeAt Go.RowKit Go.Proofs.YtmnemlihimnofaaDoor
set_option maxRecDepth 100000 in
theorem rounding_lifted (os : Os) (started : os.Started) (H : Type) (enc : TypeId × Value → H) :
    ReturnsInHanded {} Tryd.checked os 14 .any (fun w args => (Rows.rateRoundingSpec.pre enc Tryd.prog Tryd.f14 [] false w args ∧ laidMetH Tryd.prog laid1 w) ∧ sizedMet enc Tryd.prog Tryd.f14 (OpenSpec.ofChange Rows.rateRoundingSpec) false w args)
      (Rows.rateRoundingSpec.post enc Tryd.prog Tryd.f14 false true false false) := by
  refine returnsInHanded_of_change_and (C := Tryd.checked) (X := fun w _ => laidMetH Tryd.prog laid1 w) (fun _ _ _ hh h => h.of_heap hh) own started (by kernel_rfl) Tryd.func14
    (ChangeSpec.witness_shaped (enc := enc) (C := Tryd.checked) (os := os) (X := fun w _ => laidMetH Tryd.prog laid1 w) false (World.doorLaid Tryd.prog 400 os) #[.int .i64 0, .slice none 0 0, .slice none 0 0, .int .i64 0] 8 rfl (World.shaped_of_RefB (by kernel_rfl) (by kernel_rfl)) (by kernel_rfl) (by kernel_rfl) (by kernel_rfl) (door_met os _)) ?_
  intro W base args ds gs before hval0 hW _ _ hL _
  have hval : ∀ (j : Nat) t v, Tryd.f14.params[j]? = some t → args[j]? = some v → Value.okWide Tryd.prog W .any base t v := hval0
  have hW' := hW
  obtain ⟨p, q, hA0, hV, rfl, hfz, hnd⟩ := hW
  have hA : DataW.TrodAll enc Tryd.prog W 0 (fun _ => true) true Tryd.f14.params.toList args.toList ds p := hA0
  obtain ⟨rfl, rfl⟩ := trodVars_none hV
  rw [Tryd.params14] at hA hval
  obtain ⟨v0, vs0, d0, ds0, p0, q0, ha, rfl, rfl, t0, hA⟩ := trodAll_cons hA
  obtain ⟨v1, vs1, d1, ds1, p1, q1, rfl, rfl, rfl, t1, hA⟩ := trodAll_cons hA
  obtain ⟨v2, vs2, d2, ds2, p2, q2, rfl, rfl, rfl, t2, hA⟩ := trodAll_cons hA
  obtain ⟨v3, vs3, d3, ds3, p3, q3, rfl, rfl, rfl, t3, hA⟩ := trodAll_cons hA
  obtain ⟨rfl, rfl, rfl⟩ := trodAll_nil hA
  have hargs : args = #[v0, v1, v2, v3] := Array.toList_inj.1 ha
  subst hargs
  obtain ⟨x0, r0⟩ := rep_arg_int Tryd.underlying3 (hval 0 3 v0 rfl rfl)
  obtain ⟨x1, r1⟩ := rep_arg_slice Tryd.underlying22 opens_Offer (by decide) (hval 1 22 v1 rfl rfl) t1
  obtain ⟨x2, r2⟩ := rep_arg_slice Tryd.underlying27 (opens_int Tryd.underlying3 (by kernel_rfl)) (by decide) (hval 2 27 v2 rfl rfl) t2
  obtain ⟨x3, r3⟩ := rep_arg_int Tryd.underlying3 (hval 3 3 v3 rfl rfl)
  have hw := calls_of_pure (args := [.int .i64 x0, .imm 4 (lenc Offer.pd x1), .imm 1 (lenc (PD.int .i64) x2), .int .i64 x3]) (vs := [v0, v1, v2, v3]) (m_cocketlaw01_RateRounding_ok x0 x1 x2 x3 true (RateRounding_law x0 x1 x2 x3)) rfl (fun i hi => by
    match i, hi with
    | 0, _ => exact r0
    | 1, _ => exact r1
    | 2, _ => exact r2
    | 3, _ => exact r3) (glob_of_laid hL)
  refine hw.mono fun e W' ⟨he, hs⟩ => ?_
  subst he
  exact ⟨_, rfl, law_post rfl hW' hs rfl (t := 4) (by rfl) Tryd.underlying4 laidOut (by kernel_rfl)⟩
theorem rounding_said : Rows.RateRoundingSaid :=
  OpenClaim.holds_of_wide 14 Tryd.f14 rfl rfl rfl rfl rfl rfl rfl ⟨rfl, rfl, rfl, rfl, rfl⟩ rfl rfl rfl rfl rfl (by kernel_rfl) Tryd.func14 (by kernel_rfl)
    (of_decide_eq_true (by kernel_rfl)) (by unfold Func.isWrapper; first | (rw [if_pos (by decide +kernel)]; kernel_rfl) | (rw [if_neg (by decide +kernel)]; exact ⟨rfl, rfl⟩))
    (fun os started H enc _ => rounding_lifted os started H enc)
theorem rounding_card : Rows.RateRoundingCardSaid :=
  Claim7.holds_tied_plain_at .later [] [.data] true Rows.rateRoundingCard.stood.harness false
    rounding_said (fun _ h => by cases h) (by kernel_rfl) (fun _ h => by cases h) rateRounding_row_tie rfl ⟨rfl, rfl⟩ (by kernel_rfl) rfl
    (fun f fn hf hfn => by
      obtain rfl : f = 14 := Option.some.inj ((show Tryd.prog.funcNamed Rows.rateRoundingRow.func = some 14 by kernel_rfl).symm.trans hf) |>.symm
      obtain rfl : fn = Tryd.f14 := (Option.some.inj (Tryd.func14.symm.trans hfn)).symm
      exact ⟨by kernel_rfl, fun j t ht => by
        rw [Tryd.params14] at ht
        have hm : t ∈ [3, 22, 27, 3] := by simpa using Array.mem_of_getElem? ht
        have hall : ([3, 22, 27, 3].all fun u => !Tryd.prog.wantsStandIn u) = true := by kernel_rfl
        exact (show Tryd.prog.wantsStandIn t = false by simpa using List.all_eq_true.1 hall t hm)⟩)
    (by kernel_rfl)
end Go.Pv.Tryd

namespace Go.Proofs.YtmnemlihimnofaaDoor

theorem rounding_card : Rows.RateRoundingCardSaid := Go.Pv.Tryd.rounding_card

#print axioms rounding_card

end Go.Proofs.YtmnemlihimnofaaDoor
