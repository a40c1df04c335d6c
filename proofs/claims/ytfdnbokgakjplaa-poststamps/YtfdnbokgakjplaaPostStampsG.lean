/- PostStamps answers true for every input, and its arguments read as they did: as its row says (Rows), under the conditions of the row, no more. Part 7 of 8: by one AI agent and its programs; no person has read it. -/
import Derived.Test.YtfdnbokgakjplaaPostStampsA
import Derived.Test.YtfdnbokgakjplaaPostStampsB
import Derived.Test.YtfdnbokgakjplaaPostStampsC
import Derived.Test.YtfdnbokgakjplaaPostStampsD
import Derived.Test.YtfdnbokgakjplaaPostStampsE
import Derived.Test.YtfdnbokgakjplaaPostStampsF
set_option linter.unusedSimpArgs false
set_option linter.unusedVariables false
set_option linter.all false

namespace Go.Pv.Try
open Go.Proofs Go.Pv
set_option maxHeartbeats 4000000 in
theorem m_cocketlaw09_PostStamps_ok (n1 : Int) (l1 : (List Act)) (r : Bool) (h : m_cocketlaw09_PostStamps n1 l1 = some r) : PureFn Try.prog G 4 [.d (.int .i64 n1), .d (.imm 3 (lenc Act.pd l1))] (.d (.bool r)) := by
 unfold m_cocketlaw09_PostStamps at h
 refine pf Try.func4 Try.ntmps4 ?_
 refine sg fun K k => ?_
 refine oo ?_
 refine AOps.nil (k _ ?_)
 refine AWp.seq fun _ K_1 => ?_
 refine sg fun K k => ?_
 iterate 3 refine oo ?_
 refine AOps.nil (k _ ?_)
 refine cd h (fun h => ?_) (fun h => ?_)
 ·refine sg fun K k => ?_
  obtain ⟨r1, hx_3, h⟩ := bind_some h
  refine cl (m_cocketlaw09_alive_ok _ hx_3) ?_
  refine oo ?_
  refine AOps.nil (k _ ?_)
  refine AWp.ret ?_
  cases h; exact rt
 ·refine AWp.skip ?_
  refine K_1 _ ?_
  refine sg fun K k => ?_
  refine oo ?_
  obtain ⟨r2, hx_4, h⟩ := bind_some h
  rcases optB_case h with ⟨hw_5, h⟩ | ⟨t1, hw_5, h⟩
  ·refine clB (S := Pst.bs) (L := []) (L' := []) [] [] [] (m_post_New_h_none n1 r2 hx_4 hw_5) (hrow := trivial) ?_
   iterate 5 refine oo ?_
   refine AOps.nil (k _ ?_)
   refine AWp.seq fun _ K_6 => ?_
   refine sg fun K k => ?_
   iterate 2 refine oo ?_
   refine AOps.nil (k _ ?_)
   refine cd h (fun h => ?_) (fun h => ?_)
   ·refine sg fun K k => ?_
    iterate 3 refine oo ?_
    obtain ⟨r3, hx_8, h⟩ := bind_some h
    refine cl (m_cocketlaw09_alive_ok _ hx_8) ?_
    iterate 2 refine oo ?_
    refine AOps.nil (k _ ?_)
    refine AWp.ret ?_
    cases h; exact rt
   ·refine AWp.skip ?_
    refine K_6 _ ?_
    refine sg fun K k => ?_
    obtain ⟨hg_9, h⟩ := guardO_some h
    iterate 3 refine oo ?_
    refine AOps.nil (k _ ?_)
    refine sg fun K k => ?_
    obtain ⟨hg_10, h⟩ := guardO_some h
    iterate 3 refine oo ?_
    refine AOps.nil (k _ ?_)
    refine jm (ι := ((List Stamp) × (List Int))) [0, 5] [] (fun i t => (7, .slc 1000 0 i.1.length) :: (8, .slc 1001 0 i.2.length) :: t) (fun i t => (1000, ⟨46, 3, dl (lenc Stamp.pd i.1)⟩) :: (1001, ⟨3, 1, dl (lenc (PD.int .i64) i.2)⟩) :: t) .inl h ?_ ?_
    ·intro _ hj_12 h
     refine sg fun K k => ?_
     refine oo ?_
     refine AOps.nil (k _ ?_)
     refine AWp.block ?_
     obtain ⟨x_17, hl_14, h2_15⟩ := bind_some hj_12
     refine lp (S := (Int × (List Stamp) × (List Int))) [0, 1, 5] [] (fun i t => (7, .slc 1000 0 i.2.1.length) :: (8, .slc 1001 0 i.2.2.length) :: (9, .d (.int .i64 i.1)) :: t) (fun i t => (1000, ⟨46, 3, dl (lenc Stamp.pd i.2.1)⟩) :: (1001, ⟨3, 1, dl (lenc (PD.int .i64) i.2.2)⟩) :: t) hl_14 ?_ ?_; exact sb; clear hl_14
     rintro ⟨i1, L3, L4⟩ _ hb_16; unfold m_cocketlaw09_PostStamps_l1 at hb_16; try dsimp only at hb_16
     try dsimp only
     refine AWp.seq fun _ K_19 => ?_
     refine sg fun K k => ?_
     iterate 4 refine oo ?_
     refine AOps.nil (k _ ?_)
     refine cd hb_16 (fun hb_16 => ?_) (fun hb_16 => ?_)
     ·refine AWp.skip ?_
      refine K_19 _ ?_
      refine jm (ι := ((List Stamp) × (List Int))) [0, 1, 5, 9] [] (fun i t => (7, .slc 1000 0 i.1.length) :: (8, .slc 1001 0 i.2.length) :: t) (fun i t => (1000, ⟨46, 3, dl (lenc Stamp.pd i.1)⟩) :: (1001, ⟨3, 1, dl (lenc (PD.int .i64) i.2)⟩) :: t) .inl hb_16 ?_ ?_
      ·intro _ hj_22 hb_16
       refine AWp.block ?_
       refine sg fun K k => ?_
       obtain ⟨e1, ⟨f_23, f_24, f_25, f_26⟩, hj_22⟩ := idx_bind hj_22
       iterate 4 refine oo ?_
       refine oo ?_ (by intro K k; simp (disch := omega) only [go_sem, f_25, ↓reduceIte]; exact k)
       refine AOps.sub (τ := ⟨[(0, .d (.int .i64 n1)), (1, .d (.imm 3 (lenc Act.pd l1))), (5, .d .nilptr), (7, .slc 1000 0 L3.length), (8, .slc 1001 0 L4.length), (9, .d (.int .i64 i1)), (47, .d .nilptr), (51, .d (.agg [(.int .u8 e1.Kind), (.int .i64 e1.A), (.int .i64 e1.B)]))], [(1000, ⟨46, 3, dl (lenc Stamp.pd L3)⟩), (1001, ⟨3, 1, dl (lenc (PD.int .i64) L4)⟩)], [], none⟩) sb ?_
       obtain ⟨r4, hx_27, hj_22⟩ := bind_some hj_22
       refine clU [] [] (m_cocketlaw09_act_hn_ok e1 _ hx_27) ?_
       refine AOps.nil (k _ ?_)
       refine jm (ι := ((List Stamp) × (List Int))) [0, 1, 5, 9] [] (fun i t => (7, .slc 1000 0 i.1.length) :: (8, .slc 1001 0 i.2.length) :: t) (fun i t => (1000, ⟨46, 3, dl (lenc Stamp.pd i.1)⟩) :: (1001, ⟨3, 1, dl (lenc (PD.int .i64) i.2)⟩) :: t) .inl hj_22 ?_ ?_
       ·intro _ hj_29 hj_22
        refine sg fun K k => ?_
        refine oo ?_
        refine AOps.nil (k _ ?_)
        refine AWp.block ?_
        obtain ⟨x_34, hl_31, h2_32⟩ := bind_some hj_29
        refine lp (S := ((List Stamp) × (List Int))) [0, 1, 5, 9, 10] [] (fun i t => (7, .slc 1000 0 i.1.length) :: (8, .slc 1001 0 i.2.length) :: t) (fun i t => (1000, ⟨46, 3, dl (lenc Stamp.pd i.1)⟩) :: (1001, ⟨3, 1, dl (lenc (PD.int .i64) i.2)⟩) :: t) hl_31 ?_ ?_; exact sb; clear hl_31
        rintro ⟨L9, L10⟩ _ hb_33; unfold m_cocketlaw09_PostStamps_l2 at hb_33; try dsimp only at hb_33
        try dsimp only
        refine AWp.seq fun _ K_36 => ?_
        refine sg fun K k => ?_
        iterate 3 refine oo ?_
        refine AOps.nil (k _ ?_)
        refine cd hb_33 (fun hb_33 => ?_) (fun hb_33 => ?_)
        ·refine AWp.skip ?_
         refine K_36 _ ?_
         refine AWp.seq fun _ K_38 => ?_
         refine AWp.block ?_
         refine sg fun K k => ?_
         iterate 2 refine oo ?_
         obtain ⟨r5, hx_39, hb_33⟩ := bind_some hb_33
         refine clU [] [] (m_post_Net_Kept_hn_ok 0 _ hx_39) ?_
         iterate 8 refine oo ?_
         refine AOps.nil (k _ ?_)
         refine sg fun K k => ?_
         obtain ⟨e2, ⟨f_40, f_41, f_42, f_43⟩, hb_33⟩ := idx_bind hb_33
         iterate 4 refine oo ?_
         refine oo ?_ (by intro K k; simp (disch := omega) only [go_sem, f_42, ↓reduceIte]; exact k)
         iterate 3 refine oo ?_
         refine ct 8 [0, 1, 5, 7, 8, 9, 10, 11, 12, 13] [1000, 1001, 1002] (fun  t => (80, .d (.bool ((decide ((e2.Kind.tmod 12) = 9)) || (decide ((e2.Kind.tmod 12) = 10))))) :: t) ?_ ?_
         ·rcases bt (decide ((e2.Kind.tmod 12) = 9)) with hg_45 | hg_45
          ·rw [hg_45]
           iterate 8 refine oo ?_
           refine AOps.nil ?_
           exact sb
          ·rw [hg_45]
           iterate 4 refine oo ?_
           refine oo ?_ (by intro K k; simp (disch := omega) only [go_sem, f_42, ↓reduceIte]; exact k)
           iterate 3 refine oo ?_
           refine AOps.nil ?_
           exact sb
         refine oo ?_
         refine AOps.nil (k _ ?_)
         refine AWp.seq fun _ K_46 => ?_
         refine sd mo fun K k => ?_
         refine dd ?_
         refine dd ?_ (by intro K k; simp (disch := omega) only [go_sem, Int.reduceEq, Int.reduceLT, Int.reduceLE, decide_true, decide_false, not_true_eq_false, not_false_eq_true, Bool.not_true, Bool.not_false, ↓reduceIte]; exact k)
         iterate 35 refine dd ?_
         refine DOps.nil (by kernel_rfl) (k _ ?_)
         refine cdt ?_
         refine sg fun K k => ?_
         refine oo ?_
         refine AOps.nil (k _ ?_)
         refine AWp.ret ?_
         refine lx hb_33 fun hx => ?_; cases hx; try dsimp only at h2_32
         cases h2_32; try dsimp only at hj_22
         cases hj_22; try dsimp only at hb_16
         refine lx hb_16 fun hx => ?_; cases hx; try dsimp only at h2_15
         cases h2_15; try dsimp only at h
         cases h; exact rt
        ·refine AWp.exit ?_
         refine lx hb_33 fun hx => ?_; cases hx; try dsimp only at h2_32
         exact ln h2_32 sb
       ·rintro ⟨L7, L8⟩ hj_22; dsimp only at hj_22 ⊢
        refine sg fun K k => ?_
        refine oo ?_
        refine AOps.nil (k _ ?_)
        refine AWp.block ?_
        obtain ⟨x_51, hl_48, h2_49⟩ := bind_some hj_22
        refine lp (S := Int) [0, 1, 5, 7, 8, 9] [1000, 1001] (fun i t => (15, .d (.int .i64 i)) :: t) (fun i t => t) hl_48 ?_ ?_; exact sb; clear hl_48
        rintro p1 _ hb_50; unfold m_cocketlaw09_PostStamps_l3 at hb_50; try dsimp only at hb_50
        try dsimp only
        refine AWp.seq fun _ K_53 => ?_
        refine sg fun K k => ?_
        iterate 3 refine oo ?_
        refine AOps.nil (k _ ?_)
        refine cd hb_50 (fun hb_50 => ?_) (fun hb_50 => ?_)
        ·refine AWp.skip ?_
         refine K_53 _ ?_
         refine jm (ι := Unit) [0, 1, 5, 7, 8, 9, 15] [1000, 1001] (fun i t => t) (fun i t => t) .inl hb_50 ?_ ?_
         ·intro _ hj_56 hb_50
          refine AWp.block ?_
          refine sg fun K k => ?_
          refine oo ?_
          refine AOps.nil (k _ ?_)
          refine AWp.block ?_
          obtain ⟨x_61, hl_58, h2_59⟩ := bind_some hj_56
          refine lp (S := Int) [0, 1, 5, 7, 8, 9, 15] [1000, 1001] (fun i t => (16, .d (.int .i64 i)) :: t) (fun i t => t) hl_58 ?_ ?_; exact sb; clear hl_58
          rintro q1 _ hb_60; unfold m_cocketlaw09_PostStamps_l4 at hb_60; try dsimp only at hb_60
          try dsimp only
          refine AWp.seq fun _ K_63 => ?_
          refine sg fun K k => ?_
          iterate 3 refine oo ?_
          refine AOps.nil (k _ ?_)
          refine cd hb_60 (fun hb_60 => ?_) (fun hb_60 => ?_)
          ·refine AWp.skip ?_
           refine K_63 _ ?_
           refine AWp.seq fun _ K_65 => ?_
           refine AWp.block ?_
           refine sd mo fun K k => ?_
           obtain ⟨e3, ⟨f_66, f_67, f_68, f_69⟩, hb_60⟩ := idx_bind hb_60
           iterate 3 refine dd ?_
           refine dd ?_ (by intro K k; simp (disch := omega) only [go_sem, f_68, ↓reduceIte]; exact k)
           obtain ⟨e4, ⟨f_70, f_71, f_72, f_73⟩, hb_60⟩ := idx_bind hb_60
           iterate 3 refine dd ?_
           refine dd ?_ (by intro K k; simp (disch := omega) only [go_sem, f_72, ↓reduceIte]; exact k)
           refine ddx ?_ (by intro K k; simp (disch := omega) only [go_sem, fsl46, ↓reduceIte]; exact k)
           refine dd ?_
           rcases bt ((e3.No == e4.No) && ((e3.Post == e4.Post) && (e3.Turn == e4.Turn))) with hg_74 | hg_74
           ·rw [hg_74]
            replace hb_60 := condT hg_74 hb_60
            obtain ⟨e5, ⟨f_75, f_76, f_77, f_78⟩, hb_60⟩ := idx_bind hb_60
            iterate 3 refine dd ?_
            refine dd ?_ (by intro K k; simp (disch := omega) only [go_sem, f_77, ↓reduceIte]; exact k)
            obtain ⟨e6, ⟨f_79, f_80, f_81, f_82⟩, hb_60⟩ := idx_bind hb_60
            iterate 3 refine dd ?_
            refine dd ?_ (by intro K k; simp (disch := omega) only [go_sem, f_81, ↓reduceIte]; exact k)
            iterate 2 refine dd ?_
            refine DOps.nil (by kernel_rfl) (k _ ?_)
            refine cd hb_60 (fun hb_60 => ?_) (fun hb_60 => ?_)
            ·refine sg fun K k => ?_
             refine oo ?_
             refine AOps.nil (k _ ?_)
             refine AWp.ret ?_
             refine lx hb_60 fun hx => ?_; cases hx; try dsimp only at h2_59
             cases h2_59; try dsimp only at hb_50
             refine lx hb_50 fun hx => ?_; cases hx; try dsimp only at h2_49
             cases h2_49; try dsimp only at hb_16
             refine lx hb_16 fun hx => ?_; cases hx; try dsimp only at h2_15
             cases h2_15; try dsimp only at h
             cases h; exact rt
            ·refine AWp.skip ?_
             refine K_65 _ ?_
             refine AWp.reg ?_
             iterate 3 refine oo ?_
             refine AOps.nil ?_
             exact ln hb_60 sb
           ·rw [hg_74]
            replace hb_60 := condF hg_74 hb_60
            iterate 10 refine dd ?_
            refine DOps.nil (by kernel_rfl) (k _ ?_)
            refine cdf ?_
            refine AWp.skip ?_
            refine K_65 _ ?_
            refine AWp.reg ?_
            iterate 3 refine oo ?_
            refine AOps.nil ?_
            exact ln hb_60 sb
          ·refine AWp.exit ?_
           refine lx hb_60 fun hx => ?_; cases hx; try dsimp only at h2_59
           exact ln h2_59 sb
         ·rintro _ hb_50; dsimp only at hb_50 ⊢
          refine AWp.reg ?_
          iterate 3 refine oo ?_
          refine AOps.nil ?_
          exact ln hb_50 sb
        ·refine AWp.exit ?_
         refine lx hb_50 fun hx => ?_; cases hx; try dsimp only at h2_49
         exact ln h2_49 sb
      ·rintro ⟨L5, L6⟩ hb_16; dsimp only at hb_16 ⊢
       refine AWp.reg ?_
       iterate 3 refine oo ?_
       refine AOps.nil ?_
       exact ln hb_16 sb
     ·refine AWp.exit ?_
      refine lx hb_16 fun hx => ?_; cases hx; try dsimp only at h2_15
      exact ln h2_15 sb
    ·rintro ⟨L1, L2⟩ h; dsimp only at h ⊢
     refine sg fun K k => ?_
     refine oo ?_
     obtain ⟨r6, hx_84, h⟩ := bind_some h
     refine clW (M := []) [(1000, 1002)] [] [] (m_post_Net_Calls_hn_ok _ hx_84) ?_
     refine oo ?_
     refine AOps.nil (k _ ?_)
     refine jm (ι := Unit) [] [] (fun i t => t) (fun i t => t) .inl h ?_ ?_
     ·intro _ hj_86 h
      refine sg fun K k => ?_
      refine oo ?_
      refine AOps.nil (k _ ?_)
      refine AWp.block ?_
      obtain ⟨x_91, hl_88, h2_89⟩ := bind_some hj_86
      refine lp (S := Int) [0, 7, 8, 17] [1000, 1001, 1002] (fun i t => (18, .d (.int .i64 i)) :: t) (fun i t => t) hl_88 ?_ ?_; exact sb; clear hl_88
      rintro p2 _ hb_90; unfold m_cocketlaw09_PostStamps_l5 at hb_90; try dsimp only at hb_90
      try dsimp only
      refine AWp.seq fun _ K_93 => ?_
      refine sg fun K k => ?_
      iterate 3 refine oo ?_
      refine AOps.nil (k _ ?_)
      refine cd hb_90 (fun hb_90 => ?_) (fun hb_90 => ?_)
      ·refine AWp.skip ?_
       refine K_93 _ ?_
       refine jm (ι := Unit) [0, 7, 8, 17, 18] [1000, 1001, 1002] (fun i t => t) (fun i t => t) .inl hb_90 ?_ ?_
       ·intro _ hj_96 hb_90
        refine AWp.block ?_
        refine sg fun K k => ?_
        obtain ⟨e7, ⟨f_97, f_98, f_99, f_100⟩, hj_96⟩ := idx_bind hj_96
        iterate 3 refine oo ?_
        refine oo ?_ (by intro K k; simp (disch := omega) only [go_sem, f_99, ↓reduceIte]; exact k)
        iterate 2 refine oo ?_
        obtain ⟨b1, hc_101, hj_96⟩ := bind_some hj_96
        refine ct 7 [0, 7, 8, 17, 18] [1000, 1001, 1002] (fun  t => (175, .d (.bool b1)) :: t) ?_ ?_
        ·rcases bt (decide (e7 = 0)) with hg_106 | hg_106
         ·rw [hg_106]
          replace hc_101 := condT hg_106 hc_101
          obtain ⟨e8, ⟨f_102, f_103, f_104, f_105⟩, hc_101⟩ := idx_bind hc_101
          iterate 3 refine oo ?_
          refine oo ?_ (by intro K k; simp (disch := omega) only [go_sem, f_104, ↓reduceIte]; exact k)
          refine oo ?_
          refine ox ?_ (by intro K k; simp (disch := omega) only [go_sem, fsl46, ↓reduceIte]; exact k)
          refine oo ?_
          refine AOps.nil ?_
          cases hc_101
          exact sb
         ·rw [hg_106]
          replace hc_101 := condF hg_106 hc_101
          iterate 7 refine oo ?_
          refine AOps.nil ?_
          cases hc_101
          exact sb
        refine oo ?_
        refine AOps.nil (k _ ?_)
        refine jn (α := Bool) [0, 7, 8, 17, 18] [1000, 1001, 1002] (fun i t => (19, .d (.bool i)) :: t) (fun i t => t) hj_96 ?_ ?_
        ·intro _ hj_108
         refine sg fun K k => ?_
         refine oo ?_
         refine AOps.nil (k _ ?_)
         refine AWp.block ?_
         obtain ⟨x_113, hl_110, h2_111⟩ := bind_some hj_108
         refine lp (S := (Bool × Int)) [0, 7, 8, 17, 18] [1000, 1001, 1002] (fun i t => (19, .d (.bool i.1)) :: (20, .d (.int .i64 i.2)) :: t) (fun i t => t) hl_110 ?_ ?_; exact sb; clear hl_110
         rintro ⟨written2, i2⟩ _ hb_112; unfold m_cocketlaw09_PostStamps_l6 at hb_112; try dsimp only at hb_112
         try dsimp only
         refine AWp.seq fun _ K_115 => ?_
         refine sg fun K k => ?_
         iterate 4 refine oo ?_
         refine AOps.nil (k _ ?_)
         refine cd hb_112 (fun hb_112 => ?_) (fun hb_112 => ?_)
         ·refine AWp.skip ?_
          refine K_115 _ ?_
          refine jn (α := Bool) [0, 7, 8, 17, 18, 20] [1000, 1001, 1002] (fun i t => (19, .d (.bool i)) :: t) (fun i t => t) hb_112 ?_ ?_
          ·intro _ hj_118
           refine AWp.block ?_
           refine AWp.draw mo [] trivial ?_
           iterate 2 refine dd ?_
           rcases bt written2 with hg_119 | hg_119
           ·rw [hg_119]
            replace hj_118 := condT hg_119 hj_118
            iterate 32 refine dd ?_
            refine DOps.nil (by kernel_rfl) ?_
            cases hj_118; exact sb
           ·rw [hg_119]
            replace hj_118 := condF hg_119 hj_118
            obtain ⟨e9, ⟨f_120, f_121, f_122, f_123⟩, hj_118⟩ := idx_bind hj_118
            iterate 4 refine dd ?_
            refine dd ?_ (by intro K k; simp (disch := omega) only [go_sem, f_122, ↓reduceIte]; exact k)
            refine dd ?_
            rcases bt e9.Write with hg_124 | hg_124
            ·rw [hg_124]
             replace hj_118 := condT hg_124 hj_118
             iterate 4 refine dd ?_
             refine dd ?_ (by intro K k; simp (disch := omega) only [go_sem, f_122, ↓reduceIte]; exact k)
             obtain ⟨e10, ⟨f_125, f_126, f_127, f_128⟩, hj_118⟩ := idx_bind hj_118
             iterate 4 refine dd ?_
             refine dd ?_ (by intro K k; simp (disch := omega) only [go_sem, f_127, ↓reduceIte]; exact k)
             iterate 3 refine dd ?_
             rcases bt (decide (e9.Post = e10.Post)) with hg_129 | hg_129
             ·rw [hg_129]
              replace hj_118 := condT hg_129 hj_118
              iterate 4 refine dd ?_
              refine dd ?_ (by intro K k; simp (disch := omega) only [go_sem, f_122, ↓reduceIte]; exact k)
              obtain ⟨e11, ⟨f_130, f_131, f_132, f_133⟩, hj_118⟩ := idx_bind hj_118
              iterate 3 refine dd ?_
              refine dd ?_ (by intro K k; simp (disch := omega) only [go_sem, f_132, ↓reduceIte]; exact k)
              iterate 4 refine dd ?_
              refine DOps.nil (by kernel_rfl) ?_
              cases hj_118; exact sb
             ·rw [hg_129]
              replace hj_118 := condF hg_129 hj_118
              iterate 13 refine dd ?_
              refine DOps.nil (by kernel_rfl) ?_
              cases hj_118; exact sb
            ·rw [hg_124]
             replace hj_118 := condF hg_124 hj_118
             iterate 26 refine dd ?_
             refine DOps.nil (by kernel_rfl) ?_
             cases hj_118; exact sb
          ·rintro written3 hb_112; dsimp only at hb_112 ⊢
           refine AWp.reg ?_
           iterate 3 refine oo ?_
           refine AOps.nil ?_
           exact ln hb_112 sb
         ·refine AWp.exit ?_
          refine lx hb_112 fun hx => ?_; cases hx; try dsimp only at h2_111
          cases h2_111; exact sb
        ·rintro written1 hj_96; dsimp only at hj_96 ⊢
         refine sg fun K k => ?_
         iterate 2 refine oo ?_
         refine AOps.nil (k _ ?_)
         refine cd hj_96 (fun hj_96 => ?_) (fun hj_96 => ?_)
         ·refine sg fun K k => ?_
          refine oo ?_
          refine AOps.nil (k _ ?_)
          refine AWp.ret ?_
          cases hj_96; try dsimp only at hb_90
          refine lx hb_90 fun hx => ?_; cases hx; try dsimp only at h2_89
          cases h2_89; try dsimp only at h
          cases h; exact rt
         ·refine AWp.skip ?_
          exact ln hj_96 sb
       ·rintro _ hb_90; dsimp only at hb_90 ⊢
        refine AWp.reg ?_
        iterate 3 refine oo ?_
        refine AOps.nil ?_
        exact ln hb_90 sb
      ·refine AWp.exit ?_
       refine lx hb_90 fun hx => ?_; cases hx; try dsimp only at h2_89
       exact ln h2_89 sb
     ·rintro _ h; dsimp only at h ⊢
      refine sg fun K k => ?_
      obtain ⟨r7, hx_135, h⟩ := bind_some h
      refine cl (m_cocketlaw09_alive_ok _ hx_135) ?_
      refine oo ?_
      refine AOps.nil (k _ ?_)
      refine AWp.ret ?_
      cases h; exact rt
  ·refine clB (S := Pst.bs) (L := []) (L' := t1.posts) [(1000, 1000), (1001, 1001), (1002, 1002), (1003, 1003)] [] [] (m_post_New_h_some n1 r2 hx_4 t1 hw_5) (hrow := trivial) ?_
   iterate 5 refine oo ?_
   refine AOps.nil (k _ ?_)
   refine AWp.seq fun _ K_136 => ?_
   refine sg fun K k => ?_
   iterate 2 refine oo ?_
   refine AOps.nil (k _ ?_)
   refine cd h (fun h => ?_) (fun h => ?_)
   ·refine sg fun K k => ?_
    iterate 6 refine oo ?_
    refine AOps.nil (k _ ?_)
    refine AWp.ret ?_
    cases h; exact rt
   ·refine AWp.skip ?_
    refine K_136 _ ?_
    refine sg fun K k => ?_
    obtain ⟨hg_138, h⟩ := guardO_some h
    iterate 3 refine oo ?_
    refine AOps.nil (k _ ?_)
    refine sg fun K k => ?_
    obtain ⟨hg_139, h⟩ := guardO_some h
    iterate 3 refine oo ?_
    refine AOps.nil (k _ ?_)
    refine jm (ι := (Int × (List Pst) × (List Msg) × (List Cal) × (List Stamp) × (List Int))) [0] [] (fun i t => (5, .ptr 1000 0 0) :: (7, .slc 1004 0 i.2.2.2.2.1.length) :: (8, .slc 1005 0 i.2.2.2.2.2.length) :: t) (fun i t => dynBH (blks Pst.bs i.2.1) ((1000, ⟨67, 4, [.agg [.slc 1001 0 i.2.1.length, .slc 1002 0 i.2.2.1.length, .slc 1003 0 i.2.2.2.1.length, .d (.int .i64 i.1)]]⟩) :: (1001, ⟨84, 7, nelB Pst.bs i.2.1⟩) :: (1002, ⟨88, 8, dl (lenc Msg.pd i.2.2.1)⟩) :: (1003, ⟨51, 5, dl (lenc Cal.pd i.2.2.2.1)⟩) :: (1004, ⟨46, 3, dl (lenc Stamp.pd i.2.2.2.2.1)⟩) :: (1005, ⟨3, 1, dl (lenc (PD.int .i64) i.2.2.2.2.2)⟩) :: t)) .inl h ?_ ?_
    ·intro _ hj_141 h
     refine sg fun K k => ?_
     refine oo ?_
     refine AOps.nil (k _ ?_)
     refine AWp.block ?_
     obtain ⟨x_146, hl_143, h2_144⟩ := bind_some hj_141
     refine lp (S := (Int × Int × (List Pst) × (List Msg) × (List Cal) × (List Stamp) × (List Int))) [0, 1] [] (fun i t => (5, .ptr 1000 0 0) :: (7, .slc 1004 0 i.2.2.2.2.2.1.length) :: (8, .slc 1005 0 i.2.2.2.2.2.2.length) :: (9, .d (.int .i64 i.1)) :: t) (fun i t => dynBH (blks Pst.bs i.2.2.1) ((1000, ⟨67, 4, [.agg [.slc 1001 0 i.2.2.1.length, .slc 1002 0 i.2.2.2.1.length, .slc 1003 0 i.2.2.2.2.1.length, .d (.int .i64 i.2.1)]]⟩) :: (1001, ⟨84, 7, nelB Pst.bs i.2.2.1⟩) :: (1002, ⟨88, 8, dl (lenc Msg.pd i.2.2.2.1)⟩) :: (1003, ⟨51, 5, dl (lenc Cal.pd i.2.2.2.2.1)⟩) :: (1004, ⟨46, 3, dl (lenc Stamp.pd i.2.2.2.2.2.1)⟩) :: (1005, ⟨3, 1, dl (lenc (PD.int .i64) i.2.2.2.2.2.2)⟩) :: t)) hl_143 ?_ ?_; exact sbB; clear hl_143
     rintro ⟨i3, c2, L16, L17, L18, L19, L20⟩ _ hb_145; unfold m_cocketlaw09_PostStamps_l7 at hb_145; try dsimp only at hb_145
     try dsimp only
     refine AWp.seq fun _ K_148 => ?_
     refine sg fun K k => ?_
     iterate 4 refine oo ?_
     refine AOps.nil (k _ ?_)
     refine cd hb_145 (fun hb_145 => ?_) (fun hb_145 => ?_)
     ·refine AWp.skip ?_
      refine K_148 _ ?_
      refine jm (ι := (Int × (List Pst) × (List Msg) × (List Cal) × (List Stamp) × (List Int))) [0, 1, 9] [] (fun i t => (5, .ptr 1000 0 0) :: (7, .slc 1004 0 i.2.2.2.2.1.length) :: (8, .slc 1005 0 i.2.2.2.2.2.length) :: t) (fun i t => dynBH (blks Pst.bs i.2.1) ((1000, ⟨67, 4, [.agg [.slc 1001 0 i.2.1.length, .slc 1002 0 i.2.2.1.length, .slc 1003 0 i.2.2.2.1.length, .d (.int .i64 i.1)]]⟩) :: (1001, ⟨84, 7, nelB Pst.bs i.2.1⟩) :: (1002, ⟨88, 8, dl (lenc Msg.pd i.2.2.1)⟩) :: (1003, ⟨51, 5, dl (lenc Cal.pd i.2.2.2.1)⟩) :: (1004, ⟨46, 3, dl (lenc Stamp.pd i.2.2.2.2.1)⟩) :: (1005, ⟨3, 1, dl (lenc (PD.int .i64) i.2.2.2.2.2)⟩) :: t)) .inl hb_145 ?_ ?_
      ·intro _ hj_151 hb_145
       refine AWp.block ?_
       refine sg fun K k => ?_
       obtain ⟨e12, ⟨f_152, f_153, f_154, f_155⟩, hj_151⟩ := idx_bind hj_151
       iterate 4 refine oo ?_
       refine oo ?_ (by intro K k; simp (disch := omega) only [go_sem, f_154, ↓reduceIte]; exact k)
       refine AOps.sub (τ := ⟨[(0, .d (.int .i64 n1)), (1, .d (.imm 3 (lenc Act.pd l1))), (5, .ptr 1000 0 0), (7, .slc 1004 0 L19.length), (8, .slc 1005 0 L20.length), (9, .d (.int .i64 i3)), (47, .ptr 1000 0 0), (51, .d (.agg [(.int .u8 e12.Kind), (.int .i64 e12.A), (.int .i64 e12.B)]))], (dynBH (blks Pst.bs L16) ([(1000, ⟨67, 4, [.agg [.slc 1001 0 L16.length, .slc 1002 0 L17.length, .slc 1003 0 L18.length, .d (.int .i64 c2)]]⟩), (1001, ⟨84, 7, nelB Pst.bs L16⟩), (1002, ⟨88, 8, dl (lenc Msg.pd L17)⟩), (1003, ⟨51, 5, dl (lenc Cal.pd L18)⟩), (1004, ⟨46, 3, dl (lenc Stamp.pd L19)⟩), (1005, ⟨3, 1, dl (lenc (PD.int .i64) L20)⟩)])), [], none⟩) sbB ?_
       obtain ⟨r8, hx_156, hj_151⟩ := bind_some hj_151
       refine clB (S := Pst.bs) [(0, 1000), (1001, 1001), (1002, 1002), (1003, 1003)] [1001, 1002, 1003] [] (m_cocketlaw09_act_h_ok (⟨L16, L17, L18, c2⟩ : Net) e12 _ hx_156) ?_
       refine AOps.nil (k _ ?_)
       refine jm (ι := (Int × (List Pst) × (List Msg) × (List Cal) × (List Stamp) × (List Int))) [0, 1, 9] [] (fun i t => (5, .ptr 1000 0 0) :: (7, .slc 1004 0 i.2.2.2.2.1.length) :: (8, .slc 1005 0 i.2.2.2.2.2.length) :: t) (fun i t => dynBH (blks Pst.bs i.2.1) ((1000, ⟨67, 4, [.agg [.slc 1001 0 i.2.1.length, .slc 1002 0 i.2.2.1.length, .slc 1003 0 i.2.2.2.1.length, .d (.int .i64 i.1)]]⟩) :: (1001, ⟨84, 7, nelB Pst.bs i.2.1⟩) :: (1002, ⟨88, 8, dl (lenc Msg.pd i.2.2.1)⟩) :: (1003, ⟨51, 5, dl (lenc Cal.pd i.2.2.2.1)⟩) :: (1004, ⟨46, 3, dl (lenc Stamp.pd i.2.2.2.2.1)⟩) :: (1005, ⟨3, 1, dl (lenc (PD.int .i64) i.2.2.2.2.2)⟩) :: t)) .inl hj_151 ?_ ?_
       ·intro _ hj_158 hj_151
        refine sg fun K k => ?_
        refine oo ?_
        refine AOps.nil (k _ ?_)
        refine AWp.block ?_
        obtain ⟨x_163, hl_160, h2_161⟩ := bind_some hj_158
        refine lp (S := (Int × Int × (List Pst) × (List Msg) × (List Cal) × (List Stamp) × (List Int))) [0, 1, 9] [] (fun i t => (5, .ptr 1000 0 0) :: (7, .slc 1004 0 i.2.2.2.2.2.1.length) :: (8, .slc 1005 0 i.2.2.2.2.2.2.length) :: (10, .d (.int .i64 i.1)) :: t) (fun i t => dynBH (blks Pst.bs i.2.2.1) ((1000, ⟨67, 4, [.agg [.slc 1001 0 i.2.2.1.length, .slc 1002 0 i.2.2.2.1.length, .slc 1003 0 i.2.2.2.2.1.length, .d (.int .i64 i.2.1)]]⟩) :: (1001, ⟨84, 7, nelB Pst.bs i.2.2.1⟩) :: (1002, ⟨88, 8, dl (lenc Msg.pd i.2.2.2.1)⟩) :: (1003, ⟨51, 5, dl (lenc Cal.pd i.2.2.2.2.1)⟩) :: (1004, ⟨46, 3, dl (lenc Stamp.pd i.2.2.2.2.2.1)⟩) :: (1005, ⟨3, 1, dl (lenc (PD.int .i64) i.2.2.2.2.2.2)⟩) :: t)) hl_160 ?_ ?_; exact sbB; clear hl_160
        rintro ⟨p3, c5, L31, L32, L33, L34, L35⟩ _ hb_162; unfold m_cocketlaw09_PostStamps_l8 at hb_162; try dsimp only at hb_162
        try dsimp only
        refine AWp.seq fun _ K_165 => ?_
        refine sg fun K k => ?_
        iterate 3 refine oo ?_
        refine AOps.nil (k _ ?_)
        refine cd hb_162 (fun hb_162 => ?_) (fun hb_162 => ?_)
        ·refine AWp.skip ?_
         refine K_165 _ ?_
         refine AWp.seq fun _ K_167 => ?_
         refine AWp.block ?_
         refine sg fun K k => ?_
         iterate 2 refine oo ?_
         obtain ⟨r9, hx_168, hb_162⟩ := bind_some hb_162
         refine clB (S := Pst.bs) [(0, 1000), (1001, 1001), (1002, 1002), (1003, 1003)] [1001, 1002, 1003] [] (m_post_Net_Kept_h_ok (⟨L31, L32, L33, c5⟩ : Net) p3 _ hx_168) ?_
         iterate 8 refine oo ?_
         refine AOps.nil (k _ ?_)
         refine sg fun K k => ?_
         obtain ⟨e13, ⟨f_169, f_170, f_171, f_172⟩, hb_162⟩ := idx_bind hb_162
         iterate 4 refine oo ?_
         refine oo ?_ (by intro K k; simp (disch := omega) only [go_sem, f_171, ↓reduceIte]; exact k)
         iterate 3 refine oo ?_
         refine ctH 8 [0, 1, 5, 7, 8, 9, 10, 11, 12, 13] [1000, 1001, 1002, 1003, 1004, 1005, 1006] (fun  t => (80, .d (.bool ((decide ((e13.Kind.tmod 12) = 9)) || (decide ((e13.Kind.tmod 12) = 10))))) :: t) (fun  t => dynBH (blks Pst.bs r9.2.2.2.posts) (t)) ?_ ?_
         ·rcases bt (decide ((e13.Kind.tmod 12) = 9)) with hg_174 | hg_174
          ·rw [hg_174]
           iterate 8 refine oo ?_
           refine AOps.nil ?_
           exact sbB
          ·rw [hg_174]
           iterate 4 refine oo ?_
           refine oo ?_ (by intro K k; simp (disch := omega) only [go_sem, f_171, ↓reduceIte]; exact k)
           iterate 3 refine oo ?_
           refine AOps.nil ?_
           exact sbB
         refine oo ?_
         refine AOps.nil (k _ ?_)
         refine AWp.seq fun _ K_175 => ?_
         refine sd mo fun K k => ?_
         iterate 3 refine dd ?_
         rcases bt (decide (¬r9.2.2.1 = 0)) with hg_176 | hg_176
         ·rw [hg_176]
          replace hb_162 := condT hg_176 hb_162
          iterate 34 refine dd ?_
          refine DOps.nil (by kernel_rfl) (k _ ?_)
          refine cdt ?_
          refine sg fun K k => ?_
          refine oo ?_
          refine AOps.nil (k _ ?_)
          refine AWp.ret ?_
          refine lx hb_162 fun hx => ?_; cases hx; try dsimp only at h2_161
          cases h2_161; try dsimp only at hj_151
          cases hj_151; try dsimp only at hb_145
          refine lx hb_145 fun hx => ?_; cases hx; try dsimp only at h2_144
          cases h2_144; try dsimp only at h
          cases h; exact rt
         ·rw [hg_176]
          replace hb_162 := condF hg_176 hb_162
          obtain ⟨e14, ⟨f_177, f_178, f_179, f_180⟩, hb_162⟩ := idx_bind hb_162
          iterate 4 refine dd ?_
          refine dd ?_ (by intro K k; simp (disch := omega) only [go_sem, f_179, ↓reduceIte]; exact k)
          obtain ⟨r10, hx_181, hb_162⟩ := bind_some hb_162
          refine dcl (m_cocketlaw09_lower_ok r9.1 e14 _ hx_181) ?_
          iterate 2 refine dd ?_
          rcases bt r10 with hg_182 | hg_182
          ·rw [hg_182]
           replace hb_162 := condT hg_182 hb_162
           iterate 26 refine dd ?_
           refine DOps.nil (by kernel_rfl) (k _ ?_)
           refine cdt ?_
           refine sg fun K k => ?_
           refine oo ?_
           refine AOps.nil (k _ ?_)
           refine AWp.ret ?_
           refine lx hb_162 fun hx => ?_; cases hx; try dsimp only at h2_161
           cases h2_161; try dsimp only at hj_151
           cases hj_151; try dsimp only at hb_145
           refine lx hb_145 fun hx => ?_; cases hx; try dsimp only at h2_144
           cases h2_144; try dsimp only at h
           cases h; exact rt
          ·rw [hg_182]
           replace hb_162 := condF hg_182 hb_162
           iterate 4 refine dd ?_
           refine dd ?_ (by intro K k; simp (disch := omega) only [go_sem, f_179, ↓reduceIte]; exact k)
           refine ddx ?_ (by intro K k; simp (disch := omega) only [go_sem, fsl46, ↓reduceIte]; exact k)
           refine dd ?_
           rcases bt ((r9.1.No == e14.No) && ((r9.1.Post == e14.Post) && (r9.1.Turn == e14.Turn))) with hg_183 | hg_183
           ·rw [hg_183]
            replace hb_162 := condT hg_183 hb_162
            obtain ⟨e15, ⟨f_184, f_185, f_186, f_187⟩, hb_162⟩ := idx_bind hb_162
            iterate 4 refine dd ?_
            refine dd ?_ (by intro K k; simp (disch := omega) only [go_sem, f_186, ↓reduceIte]; exact k)
            iterate 4 refine dd ?_
            rcases bt (decide (¬r9.2.1 = e15)) with hg_188 | hg_188
            ·rw [hg_188]
             replace hb_162 := condT hg_188 hb_162
             iterate 10 refine dd ?_
             refine DOps.nil (by kernel_rfl) (k _ ?_)
             refine cdt ?_
             refine sg fun K k => ?_
             refine oo ?_
             refine AOps.nil (k _ ?_)
             refine AWp.ret ?_
             refine lx hb_162 fun hx => ?_; cases hx; try dsimp only at h2_161
             cases h2_161; try dsimp only at hj_151
             cases hj_151; try dsimp only at hb_145
             refine lx hb_145 fun hx => ?_; cases hx; try dsimp only at h2_144
             cases h2_144; try dsimp only at h
             cases h; exact rt
            ·rw [hg_188]
             replace hb_162 := condF hg_188 hb_162
             iterate 2 refine dd ?_
             rcases bt ((decide ((e13.Kind.tmod 12) = 9)) || (decide ((e13.Kind.tmod 12) = 10))) with hg_189 | hg_189
             ·rw [hg_189]
              replace hb_162 := condT hg_189 hb_162
              iterate 4 refine dd ?_
              refine dd ?_ (by intro K k; simp (disch := omega) only [go_sem, f_179, ↓reduceIte]; exact k)
              refine ddx ?_ (by intro K k; simp (disch := omega) only [go_sem, fsl46, ↓reduceIte]; exact k)
              iterate 2 refine dd ?_
              refine DOps.nil (by kernel_rfl) (k _ ?_)
              refine cd hb_162 (fun hb_162 => ?_) (fun hb_162 => ?_)
              ·refine sg fun K k => ?_
               refine oo ?_
               refine AOps.nil (k _ ?_)
               refine AWp.ret ?_
               refine lx hb_162 fun hx => ?_; cases hx; try dsimp only at h2_161
               cases h2_161; try dsimp only at hj_151
               cases hj_151; try dsimp only at hb_145
               refine lx hb_145 fun hx => ?_; cases hx; try dsimp only at h2_144
               cases h2_144; try dsimp only at h
               cases h; exact rt
              ·refine AWp.skip ?_
               refine K_175 _ ?_
               refine sg fun K k => ?_
               obtain ⟨e16, ⟨f_191, f_192, f_193, f_194⟩, hb_162⟩ := idx_bind hb_162
               iterate 4 refine oo ?_
               refine oo ?_ (by intro K k; simp (disch := omega) only [go_sem, f_193, ↓reduceIte]; exact k)
               refine AOps.nil (k _ ?_)
               refine AWp.reg ?_
               obtain ⟨e17, ⟨f_195, f_196, f_197, f_198⟩, hb_162⟩ := idx_bind hb_162
               iterate 4 refine oo ?_
               refine oo ?_ (by intro K k; simp (disch := omega) only [go_sem, f_197, ↓reduceIte]; exact k)
               refine AOps.nil ?_
               refine K_167 _ ?_
               refine AWp.reg ?_
               iterate 3 refine oo ?_
               refine AOps.nil ?_
               exact ln hb_162 sbB
             ·rw [hg_189]
              replace hb_162 := condF hg_189 hb_162
              iterate 8 refine dd ?_
              refine DOps.nil (by kernel_rfl) (k _ ?_)
              refine cdf ?_
              refine AWp.skip ?_
              refine K_175 _ ?_
              refine sg fun K k => ?_
              obtain ⟨e18, ⟨f_199, f_200, f_201, f_202⟩, hb_162⟩ := idx_bind hb_162
              iterate 4 refine oo ?_
              refine oo ?_ (by intro K k; simp (disch := omega) only [go_sem, f_201, ↓reduceIte]; exact k)
              refine AOps.nil (k _ ?_)
              refine AWp.reg ?_
              obtain ⟨e19, ⟨f_203, f_204, f_205, f_206⟩, hb_162⟩ := idx_bind hb_162
              iterate 4 refine oo ?_
              refine oo ?_ (by intro K k; simp (disch := omega) only [go_sem, f_205, ↓reduceIte]; exact k)
              refine AOps.nil ?_
              refine K_167 _ ?_
              refine AWp.reg ?_
              iterate 3 refine oo ?_
              refine AOps.nil ?_
              exact ln hb_162 sbB
           ·rw [hg_183]
            replace hb_162 := condF hg_183 hb_162
            iterate 11 refine dd ?_
            rcases bt ((decide ((e13.Kind.tmod 12) = 9)) || (decide ((e13.Kind.tmod 12) = 10))) with hg_207 | hg_207
            ·rw [hg_207]
             replace hb_162 := condT hg_207 hb_162
             iterate 4 refine dd ?_
             refine dd ?_ (by intro K k; simp (disch := omega) only [go_sem, f_179, ↓reduceIte]; exact k)
             refine ddx ?_ (by intro K k; simp (disch := omega) only [go_sem, fsl46, ↓reduceIte]; exact k)
             iterate 2 refine dd ?_
             refine DOps.nil (by kernel_rfl) (k _ ?_)
             refine cd hb_162 (fun hb_162 => ?_) (fun hb_162 => ?_)
             ·refine sg fun K k => ?_
              refine oo ?_
              refine AOps.nil (k _ ?_)
              refine AWp.ret ?_
              refine lx hb_162 fun hx => ?_; cases hx; try dsimp only at h2_161
              cases h2_161; try dsimp only at hj_151
              cases hj_151; try dsimp only at hb_145
              refine lx hb_145 fun hx => ?_; cases hx; try dsimp only at h2_144
              cases h2_144; try dsimp only at h
              cases h; exact rt
             ·refine AWp.skip ?_
              refine K_175 _ ?_
              refine sg fun K k => ?_
              obtain ⟨e20, ⟨f_209, f_210, f_211, f_212⟩, hb_162⟩ := idx_bind hb_162
              iterate 4 refine oo ?_
              refine oo ?_ (by intro K k; simp (disch := omega) only [go_sem, f_211, ↓reduceIte]; exact k)
              refine AOps.nil (k _ ?_)
              refine AWp.reg ?_
              obtain ⟨e21, ⟨f_213, f_214, f_215, f_216⟩, hb_162⟩ := idx_bind hb_162
              iterate 4 refine oo ?_
              refine oo ?_ (by intro K k; simp (disch := omega) only [go_sem, f_215, ↓reduceIte]; exact k)
              refine AOps.nil ?_
              refine K_167 _ ?_
              refine AWp.reg ?_
              iterate 3 refine oo ?_
              refine AOps.nil ?_
              exact ln hb_162 sbB
            ·rw [hg_207]
             replace hb_162 := condF hg_207 hb_162
             iterate 8 refine dd ?_
             refine DOps.nil (by kernel_rfl) (k _ ?_)
             refine cdf ?_
             refine AWp.skip ?_
             refine K_175 _ ?_
             refine sg fun K k => ?_
             obtain ⟨e22, ⟨f_217, f_218, f_219, f_220⟩, hb_162⟩ := idx_bind hb_162
             iterate 4 refine oo ?_
             refine oo ?_ (by intro K k; simp (disch := omega) only [go_sem, f_219, ↓reduceIte]; exact k)
             refine AOps.nil (k _ ?_)
             refine AWp.reg ?_
             obtain ⟨e23, ⟨f_221, f_222, f_223, f_224⟩, hb_162⟩ := idx_bind hb_162
             iterate 4 refine oo ?_
             refine oo ?_ (by intro K k; simp (disch := omega) only [go_sem, f_223, ↓reduceIte]; exact k)
             refine AOps.nil ?_
             refine K_167 _ ?_
             refine AWp.reg ?_
             iterate 3 refine oo ?_
             refine AOps.nil ?_
             exact ln hb_162 sbB
        ·refine AWp.exit ?_
         refine lx hb_162 fun hx => ?_; cases hx; try dsimp only at h2_161
         exact ln h2_161 sbB
       ·rintro ⟨c4, L26, L27, L28, L29, L30⟩ hj_151; dsimp only at hj_151 ⊢
        refine sg fun K k => ?_
        refine oo ?_
        refine AOps.nil (k _ ?_)
        refine AWp.block ?_
        obtain ⟨x_229, hl_226, h2_227⟩ := bind_some hj_151
        refine lp (S := Int) [0, 1, 5, 7, 8, 9] [1000, 1001, 1002, 1003, 1004, 1005] (fun i t => (15, .d (.int .i64 i)) :: t) (fun i t => dynBH (blks Pst.bs L26) (t)) hl_226 ?_ ?_; exact sbB; clear hl_226
        rintro p4 _ hb_228; unfold m_cocketlaw09_PostStamps_l9 at hb_228; try dsimp only at hb_228
        try dsimp only
        refine AWp.seq fun _ K_231 => ?_
        refine sg fun K k => ?_
        iterate 3 refine oo ?_
        refine AOps.nil (k _ ?_)
        refine cd hb_228 (fun hb_228 => ?_) (fun hb_228 => ?_)
        ·refine AWp.skip ?_
         refine K_231 _ ?_
         refine jm (ι := Unit) [0, 1, 5, 7, 8, 9, 15] [1000, 1001, 1002, 1003, 1004, 1005] (fun i t => t) (fun i t => dynBH (blks Pst.bs L26) (t)) .inl hb_228 ?_ ?_
         ·intro _ hj_234 hb_228
          refine AWp.block ?_
          refine sg fun K k => ?_
          refine oo ?_
          refine AOps.nil (k _ ?_)
          refine AWp.block ?_
          obtain ⟨x_239, hl_236, h2_237⟩ := bind_some hj_234
          refine lp (S := Int) [0, 1, 5, 7, 8, 9, 15] [1000, 1001, 1002, 1003, 1004, 1005] (fun i t => (16, .d (.int .i64 i)) :: t) (fun i t => dynBH (blks Pst.bs L26) (t)) hl_236 ?_ ?_; exact sbB; clear hl_236
          rintro q2 _ hb_238; unfold m_cocketlaw09_PostStamps_l10 at hb_238; try dsimp only at hb_238
          try dsimp only
          refine AWp.seq fun _ K_241 => ?_
          refine sg fun K k => ?_
          iterate 3 refine oo ?_
          refine AOps.nil (k _ ?_)
          refine cd hb_238 (fun hb_238 => ?_) (fun hb_238 => ?_)
          ·refine AWp.skip ?_
           refine K_241 _ ?_
           refine AWp.seq fun _ K_243 => ?_
           refine AWp.block ?_
           refine sd mo fun K k => ?_
           obtain ⟨e24, ⟨f_244, f_245, f_246, f_247⟩, hb_238⟩ := idx_bind hb_238
           iterate 3 refine dd ?_
           refine dd ?_ (by intro K k; simp (disch := omega) only [go_sem, f_246, ↓reduceIte]; exact k)
           obtain ⟨e25, ⟨f_248, f_249, f_250, f_251⟩, hb_238⟩ := idx_bind hb_238
           iterate 3 refine dd ?_
           refine dd ?_ (by intro K k; simp (disch := omega) only [go_sem, f_250, ↓reduceIte]; exact k)
           refine ddx ?_ (by intro K k; simp (disch := omega) only [go_sem, fsl46, ↓reduceIte]; exact k)
           refine dd ?_
           rcases bt ((e24.No == e25.No) && ((e24.Post == e25.Post) && (e24.Turn == e25.Turn))) with hg_252 | hg_252
           ·rw [hg_252]
            replace hb_238 := condT hg_252 hb_238
            obtain ⟨e26, ⟨f_253, f_254, f_255, f_256⟩, hb_238⟩ := idx_bind hb_238
            iterate 3 refine dd ?_
            refine dd ?_ (by intro K k; simp (disch := omega) only [go_sem, f_255, ↓reduceIte]; exact k)
            obtain ⟨e27, ⟨f_257, f_258, f_259, f_260⟩, hb_238⟩ := idx_bind hb_238
            iterate 3 refine dd ?_
            refine dd ?_ (by intro K k; simp (disch := omega) only [go_sem, f_259, ↓reduceIte]; exact k)
            iterate 2 refine dd ?_
            refine DOps.nil (by kernel_rfl) (k _ ?_)
            refine cd hb_238 (fun hb_238 => ?_) (fun hb_238 => ?_)
            ·refine sg fun K k => ?_
             refine oo ?_
             refine AOps.nil (k _ ?_)
             refine AWp.ret ?_
             refine lx hb_238 fun hx => ?_; cases hx; try dsimp only at h2_237
             cases h2_237; try dsimp only at hb_228
             refine lx hb_228 fun hx => ?_; cases hx; try dsimp only at h2_227
             cases h2_227; try dsimp only at hb_145
             refine lx hb_145 fun hx => ?_; cases hx; try dsimp only at h2_144
             cases h2_144; try dsimp only at h
             cases h; exact rt
            ·refine AWp.skip ?_
             refine K_243 _ ?_
             refine AWp.reg ?_
             iterate 3 refine oo ?_
             refine AOps.nil ?_
             exact ln hb_238 sbB
           ·rw [hg_252]
            replace hb_238 := condF hg_252 hb_238
            iterate 10 refine dd ?_
            refine DOps.nil (by kernel_rfl) (k _ ?_)
            refine cdf ?_
            refine AWp.skip ?_
            refine K_243 _ ?_
            refine AWp.reg ?_
            iterate 3 refine oo ?_
            refine AOps.nil ?_
            exact ln hb_238 sbB
          ·refine AWp.exit ?_
           refine lx hb_238 fun hx => ?_; cases hx; try dsimp only at h2_237
           exact ln h2_237 sbB
         ·rintro _ hb_228; dsimp only at hb_228 ⊢
          refine AWp.reg ?_
          iterate 3 refine oo ?_
          refine AOps.nil ?_
          exact ln hb_228 sbB
        ·refine AWp.exit ?_
         refine lx hb_228 fun hx => ?_; cases hx; try dsimp only at h2_227
         exact ln h2_227 sbB
      ·rintro ⟨c3, L21, L22, L23, L24, L25⟩ hb_145; dsimp only at hb_145 ⊢
       refine AWp.reg ?_
       iterate 3 refine oo ?_
       refine AOps.nil ?_
       exact ln hb_145 sbB
     ·refine AWp.exit ?_
      refine lx hb_145 fun hx => ?_; cases hx; try dsimp only at h2_144
      exact ln h2_144 sbB
    ·rintro ⟨c1, L11, L12, L13, L14, L15⟩ h; dsimp only at h ⊢
     refine sg fun K k => ?_
     refine oo ?_
     obtain ⟨r11, hx_262, h⟩ := bind_some h
     refine clB (S := Pst.bs) [(0, 1000), (1001, 1001), (1002, 1002), (1003, 1003), (1004, 1006)] [1001, 1002, 1003] [] (m_post_Net_Calls_h_ok (⟨L11, L12, L13, c1⟩ : Net) _ hx_262) ?_
     refine oo ?_
     refine AOps.nil (k _ ?_)
     refine jm (ι := Unit) [] [] (fun i t => t) (fun i t => t) .inl h ?_ ?_
     ·intro _ hj_264 h
      refine sg fun K k => ?_
      refine oo ?_
      refine AOps.nil (k _ ?_)
      refine AWp.block ?_
      obtain ⟨x_269, hl_266, h2_267⟩ := bind_some hj_264
      refine lp (S := Int) [0, 7, 8, 17] [1004, 1005, 1006] (fun i t => (18, .d (.int .i64 i)) :: t) (fun i t => t) hl_266 ?_ ?_; exact sb; clear hl_266
      rintro p5 _ hb_268; unfold m_cocketlaw09_PostStamps_l11 at hb_268; try dsimp only at hb_268
      try dsimp only
      refine AWp.seq fun _ K_271 => ?_
      refine sg fun K k => ?_
      iterate 3 refine oo ?_
      refine AOps.nil (k _ ?_)
      refine cd hb_268 (fun hb_268 => ?_) (fun hb_268 => ?_)
      ·refine AWp.skip ?_
       refine K_271 _ ?_
       refine jm (ι := Unit) [0, 7, 8, 17, 18] [1004, 1005, 1006] (fun i t => t) (fun i t => t) .inl hb_268 ?_ ?_
       ·intro _ hj_274 hb_268
        refine AWp.block ?_
        refine sg fun K k => ?_
        obtain ⟨e28, ⟨f_275, f_276, f_277, f_278⟩, hj_274⟩ := idx_bind hj_274
        iterate 3 refine oo ?_
        refine oo ?_ (by intro K k; simp (disch := omega) only [go_sem, f_277, ↓reduceIte]; exact k)
        iterate 2 refine oo ?_
        obtain ⟨b2, hc_279, hj_274⟩ := bind_some hj_274
        refine ct 7 [0, 7, 8, 17, 18] [1004, 1005, 1006] (fun  t => (175, .d (.bool b2)) :: t) ?_ ?_
        ·rcases bt (decide (e28 = 0)) with hg_284 | hg_284
         ·rw [hg_284]
          replace hc_279 := condT hg_284 hc_279
          obtain ⟨e29, ⟨f_280, f_281, f_282, f_283⟩, hc_279⟩ := idx_bind hc_279
          iterate 3 refine oo ?_
          refine oo ?_ (by intro K k; simp (disch := omega) only [go_sem, f_282, ↓reduceIte]; exact k)
          refine oo ?_
          refine ox ?_ (by intro K k; simp (disch := omega) only [go_sem, fsl46, ↓reduceIte]; exact k)
          refine oo ?_
          refine AOps.nil ?_
          cases hc_279
          exact sb
         ·rw [hg_284]
          replace hc_279 := condF hg_284 hc_279
          iterate 7 refine oo ?_
          refine AOps.nil ?_
          cases hc_279
          exact sb
        refine oo ?_
        refine AOps.nil (k _ ?_)
        refine jn (α := Bool) [0, 7, 8, 17, 18] [1004, 1005, 1006] (fun i t => (19, .d (.bool i)) :: t) (fun i t => t) hj_274 ?_ ?_
        ·intro _ hj_286
         refine sg fun K k => ?_
         refine oo ?_
         refine AOps.nil (k _ ?_)
         refine AWp.block ?_
         obtain ⟨x_291, hl_288, h2_289⟩ := bind_some hj_286
         refine lp (S := (Bool × Int)) [0, 7, 8, 17, 18] [1004, 1005, 1006] (fun i t => (19, .d (.bool i.1)) :: (20, .d (.int .i64 i.2)) :: t) (fun i t => t) hl_288 ?_ ?_; exact sb; clear hl_288
         rintro ⟨written5, i4⟩ _ hb_290; unfold m_cocketlaw09_PostStamps_l12 at hb_290; try dsimp only at hb_290
         try dsimp only
         refine AWp.seq fun _ K_293 => ?_
         refine sg fun K k => ?_
         iterate 4 refine oo ?_
         refine AOps.nil (k _ ?_)
         refine cd hb_290 (fun hb_290 => ?_) (fun hb_290 => ?_)
         ·refine AWp.skip ?_
          refine K_293 _ ?_
          refine jn (α := Bool) [0, 7, 8, 17, 18, 20] [1004, 1005, 1006] (fun i t => (19, .d (.bool i)) :: t) (fun i t => t) hb_290 ?_ ?_
          ·intro _ hj_296
           refine AWp.block ?_
           refine AWp.draw mo [] trivial ?_
           iterate 2 refine dd ?_
           rcases bt written5 with hg_297 | hg_297
           ·rw [hg_297]
            replace hj_296 := condT hg_297 hj_296
            iterate 32 refine dd ?_
            refine DOps.nil (by kernel_rfl) ?_
            cases hj_296; exact sb
           ·rw [hg_297]
            replace hj_296 := condF hg_297 hj_296
            obtain ⟨e30, ⟨f_298, f_299, f_300, f_301⟩, hj_296⟩ := idx_bind hj_296
            iterate 4 refine dd ?_
            refine dd ?_ (by intro K k; simp (disch := omega) only [go_sem, f_300, ↓reduceIte]; exact k)
            refine dd ?_
            rcases bt e30.Write with hg_302 | hg_302
            ·rw [hg_302]
             replace hj_296 := condT hg_302 hj_296
             iterate 4 refine dd ?_
             refine dd ?_ (by intro K k; simp (disch := omega) only [go_sem, f_300, ↓reduceIte]; exact k)
             obtain ⟨e31, ⟨f_303, f_304, f_305, f_306⟩, hj_296⟩ := idx_bind hj_296
             iterate 4 refine dd ?_
             refine dd ?_ (by intro K k; simp (disch := omega) only [go_sem, f_305, ↓reduceIte]; exact k)
             iterate 3 refine dd ?_
             rcases bt (decide (e30.Post = e31.Post)) with hg_307 | hg_307
             ·rw [hg_307]
              replace hj_296 := condT hg_307 hj_296
              iterate 4 refine dd ?_
              refine dd ?_ (by intro K k; simp (disch := omega) only [go_sem, f_300, ↓reduceIte]; exact k)
              obtain ⟨e32, ⟨f_308, f_309, f_310, f_311⟩, hj_296⟩ := idx_bind hj_296
              iterate 3 refine dd ?_
              refine dd ?_ (by intro K k; simp (disch := omega) only [go_sem, f_310, ↓reduceIte]; exact k)
              iterate 4 refine dd ?_
              refine DOps.nil (by kernel_rfl) ?_
              cases hj_296; exact sb
             ·rw [hg_307]
              replace hj_296 := condF hg_307 hj_296
              iterate 13 refine dd ?_
              refine DOps.nil (by kernel_rfl) ?_
              cases hj_296; exact sb
            ·rw [hg_302]
             replace hj_296 := condF hg_302 hj_296
             iterate 26 refine dd ?_
             refine DOps.nil (by kernel_rfl) ?_
             cases hj_296; exact sb
          ·rintro written6 hb_290; dsimp only at hb_290 ⊢
           refine AWp.reg ?_
           iterate 3 refine oo ?_
           refine AOps.nil ?_
           exact ln hb_290 sb
         ·refine AWp.exit ?_
          refine lx hb_290 fun hx => ?_; cases hx; try dsimp only at h2_289
          cases h2_289; exact sb
        ·rintro written4 hj_274; dsimp only at hj_274 ⊢
         refine sg fun K k => ?_
         iterate 2 refine oo ?_
         refine AOps.nil (k _ ?_)
         refine cd hj_274 (fun hj_274 => ?_) (fun hj_274 => ?_)
         ·refine sg fun K k => ?_
          refine oo ?_
          refine AOps.nil (k _ ?_)
          refine AWp.ret ?_
          cases hj_274; try dsimp only at hb_268
          refine lx hb_268 fun hx => ?_; cases hx; try dsimp only at h2_267
          cases h2_267; try dsimp only at h
          cases h; exact rt
         ·refine AWp.skip ?_
          exact ln hj_274 sb
       ·rintro _ hb_268; dsimp only at hb_268 ⊢
        refine AWp.reg ?_
        iterate 3 refine oo ?_
        refine AOps.nil ?_
        exact ln hb_268 sb
      ·refine AWp.exit ?_
       refine lx hb_268 fun hx => ?_; cases hx; try dsimp only at h2_267
       exact ln h2_267 sb
     ·rintro _ h; dsimp only at h ⊢
      refine sg fun K k => ?_
      obtain ⟨r12, hx_313, h⟩ := bind_some h
      refine cl (m_cocketlaw09_alive_ok _ hx_313) ?_
      refine oo ?_
      refine AOps.nil (k _ ?_)
      refine AWp.ret ?_
      cases h; exact rt
end Go.Pv.Try

