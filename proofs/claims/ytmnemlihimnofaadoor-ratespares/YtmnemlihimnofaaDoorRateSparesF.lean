/- RateSpares answers true for every input, as its tied card says: under the conditions of the card (Rows, Cards, Tie), no more. Part 6 of 6: by one AI agent and its programs; no person has read it. -/
import Derived.Test.YtmnemlihimnofaaDoorRateSparesA
import Derived.Test.YtmnemlihimnofaaDoorRateSparesB
import Derived.Test.YtmnemlihimnofaaDoorRateSparesC
import Derived.Test.YtmnemlihimnofaaDoorRateSparesD
import Derived.Test.YtmnemlihimnofaaDoorRateSparesE
import Derived.Test.YtmnemlihimnofaaDoorCards
import Derived.Test.YtmnemlihimnofaaDoorTie
import Derived.SevenTiedAt
set_option linter.unusedSimpArgs false
set_option linter.unusedVariables false
set_option linter.all false

namespace Go.Pv.Tryd
open Go.Proofs Go.Pv
theorem m_cocketlaw01_less_ok (a1 : Ratio) (b1 : Ratio) (r : Bool) (h : m_cocketlaw01_less a1 b1 = some r) : PureFn Tryd.prog G 34 [.d (.agg [(.int .i64 a1.Num), (.int .i64 a1.Den)]), .d (.agg [(.int .i64 b1.Num), (.int .i64 b1.Den)])] (.d (.bool r)) := by
 unfold m_cocketlaw01_less at h
 refine pf Tryd.func34 Tryd.ntmps34 ?_
 refine sg fun K k => ?_
 iterate 3 refine oo ?_
 refine AOps.nil (k _ ?_)
 refine sd mo fun K k => ?_
 refine dd ?_
 obtain ⟨r1, hx_1, h⟩ := bind_some h
 refine dcl (m_cocketref01_FromRatio_ok a1 _ hx_1) ?_
 refine dd ?_
 obtain ⟨r2, hx_2, h⟩ := bind_some h
 refine dcl (m_cocketref01_FromRatio_ok b1 _ hx_2) ?_
 obtain ⟨r3, hx_3, h⟩ := bind_some h
 refine dcl (m_cocketref01_Cmp_ok r1 r2 _ hx_3) ?_
 iterate 2 refine dd ?_
 refine DOps.nil (by kernel_rfl) (k _ ?_)
 refine AWp.ret ?_
 cases h; exact rt
end Go.Pv.Tryd

namespace Go.Pv.Tryd
open Go.Proofs Go.Pv
set_option maxHeartbeats 4000000 in
theorem m_cocketlaw01_RateSpares_ok (n1 : Int) (l1 : (List Offer)) (r : Bool) (h : m_cocketlaw01_RateSpares n1 l1 = some r) : PureFn Tryd.prog G 9 [.d (.int .i64 n1), .d (.imm 4 (lenc Offer.pd l1))] (.d (.bool r)) := by
 unfold m_cocketlaw01_RateSpares at h
 refine pf Tryd.func9 Tryd.ntmps9 ?_
 refine sg fun K k => ?_
 refine oo ?_
 refine AOps.nil (k _ ?_)
 refine AWp.seq fun _ K_1 => ?_
 refine sg fun K k => ?_
 iterate 3 refine oo ?_
 refine AOps.nil (k _ ?_)
 refine cd h (fun h => ?_) (fun h => ?_)
 ·refine sg fun K k => ?_
  obtain ⟨r1, hx_3, h⟩ := bind_some h
  refine cl (m_cocketlaw01_alive_ok _ hx_3) ?_
  refine oo ?_
  refine AOps.nil (k _ ?_)
  refine AWp.ret ?_
  cases h; exact rt
 ·refine AWp.skip ?_
  refine K_1 _ ?_
  refine sg fun K k => ?_
  iterate 2 refine oo ?_
  obtain ⟨r2, hx_4, h⟩ := bind_some h
  refine cl (m_rate_Needless_ok n1 l1 _ hx_4) ?_
  iterate 5 refine oo ?_
  refine AOps.nil (k _ ?_)
  refine AWp.seq fun _ K_5 => ?_
  refine sg fun K k => ?_
  iterate 2 refine oo ?_
  refine AOps.nil (k _ ?_)
  refine cd h (fun h => ?_) (fun h => ?_)
  ·refine sg fun K k => ?_
   iterate 4 refine oo ?_
   obtain ⟨b1, hc_7, h⟩ := bind_some h
   refine ct 2 [4] [] (fun  t => (42, .d (.bool b1)) :: t) ?_ ?_
   ·rcases bt (decide ((r2.1.length : Int) = 0)) with hg_9 | hg_9
    ·rw [hg_9]
     rw [hg_9, cond_true] at hc_7
     obtain ⟨r3, hx_8, hc_7⟩ := bind_some hc_7
     refine cl (m_cocketlaw01_alive_ok _ hx_8) ?_
     refine oo ?_
     refine AOps.nil ?_
     cases hc_7
     exact sb
    ·rw [hg_9]
     rw [hg_9, cond_false] at hc_7
     iterate 2 refine oo ?_
     refine AOps.nil ?_
     cases hc_7
     exact sb
   refine oo ?_
   refine AOps.nil (k _ ?_)
   refine AWp.ret ?_
   cases h; exact rt
  ·refine AWp.skip ?_
   refine K_5 _ ?_
   refine jm (ι := Unit) [] [] (fun i t => t) (fun i t => t) .inl h ?_ ?_
   ·intro _ hj_11 h
    refine sg fun K k => ?_
    refine oo ?_
    refine AOps.nil (k _ ?_)
    refine AWp.block ?_
    obtain ⟨x_16, hl_13, h2_14⟩ := bind_some hj_11
    refine lp (S := Int) [0, 1, 5] [] (fun i t => (7, .d (.int .i64 i)) :: t) (fun i t => t) hl_13 ?_ ?_; exact sb; clear hl_13
    rintro i1 _ hb_15; unfold m_cocketlaw01_RateSpares_l1 at hb_15; try dsimp only at hb_15
    try dsimp only
    refine AWp.seq fun _ K_18 => ?_
    refine sg fun K k => ?_
    iterate 4 refine oo ?_
    refine AOps.nil (k _ ?_)
    refine cd hb_15 (fun hb_15 => ?_) (fun hb_15 => ?_)
    ·refine AWp.skip ?_
     refine K_18 _ ?_
     refine jm (ι := Unit) [0, 1, 5, 7] [] (fun i t => t) (fun i t => t) .inl hb_15 ?_ ?_
     ·intro _ hj_21 hb_15
      refine AWp.block ?_
      refine sg fun K k => ?_
      refine oo ?_
      refine AOps.nil (k _ ?_)
      refine jn (α := Bool) [0, 1, 5, 7] [] (fun i t => (8, .d (.bool i)) :: t) (fun i t => t) hj_21 ?_ ?_
      ·intro _ hj_23
       refine sg fun K k => ?_
       refine oo ?_
       refine AOps.nil (k _ ?_)
       refine AWp.block ?_
       obtain ⟨x_28, hl_25, h2_26⟩ := bind_some hj_23
       refine lp (S := (Bool × Int)) [0, 1, 5, 7] [] (fun i t => (8, .d (.bool i.1)) :: (9, .d (.int .i64 i.2)) :: t) (fun i t => t) hl_25 ?_ ?_; exact sb; clear hl_25
       rintro ⟨spare2, k1⟩ _ hb_27; unfold m_cocketlaw01_RateSpares_l2 at hb_27; try dsimp only at hb_27
       try dsimp only
       refine AWp.seq fun _ K_30 => ?_
       refine sg fun K k => ?_
       iterate 4 refine oo ?_
       refine AOps.nil (k _ ?_)
       refine cd hb_27 (fun hb_27 => ?_) (fun hb_27 => ?_)
       ·refine AWp.skip ?_
        refine K_30 _ ?_
        refine AWp.seq fun _ K_32 => ?_
        refine AWp.block ?_
        refine AWp.reg ?_
        iterate 2 refine oo ?_
        obtain ⟨b2, hc_33, hb_27⟩ := bind_some hb_27
        refine ct 7 [0, 1, 5, 7, 8, 9] [] (fun  t => (63, .d (.bool b2)) :: t) ?_ ?_
        ·rcases bt spare2 with hg_38 | hg_38
         ·rw [hg_38]
          rw [hg_38, cond_true] at hc_33
          iterate 7 refine oo ?_
          refine AOps.nil ?_
          cases hc_33
          exact sb
         ·rw [hg_38]
          rw [hg_38, cond_false] at hc_33
          obtain ⟨e1, ⟨f_34, f_35, f_36, f_37⟩, hc_33⟩ := idx_bind hc_33
          iterate 3 refine oo ?_
          refine oo ?_ (by intro K k; simp (disch := omega) only [go_sem, f_36, ↓reduceIte]; exact k)
          iterate 3 refine oo ?_
          refine AOps.nil ?_
          cases hc_33
          exact sb
        refine oo ?_
        refine AOps.nil ?_
        refine K_32 _ ?_
        refine AWp.reg ?_
        iterate 3 refine oo ?_
        refine AOps.nil ?_
        exact ln hb_27 sb
       ·refine AWp.exit ?_
        refine lx hb_27 fun hx => ?_; cases hx; try dsimp only at h2_26
        cases h2_26; exact sb
      ·rintro spare1 hj_21; dsimp only at hj_21 ⊢
       refine sdx mo [(1000, [64, 68, 73, 10])] ⟨rfl, trivial⟩ fun K k => ?_
       obtain ⟨hg_39, hj_21⟩ := guardO_some hj_21
       obtain ⟨hg_40, hj_21⟩ := guardO_some hj_21
       iterate 4 (refine dd ?_ (by intro K k; simp (disch := omega) only [go_sem, true_or, or_true, and_self, true_and, and_true, ↓reduceIte]; exact k))
       refine dap rfl (by intro K k; refine OpX.app (S := [64, 68, 73, 10]) (L := dl (lenc Offer.pd (l1.take ((i1 : Int) - 0).toNat))) rfl rfl rfl rfl rfl (by decide) se22 (by simp only [go_sem]) (by rfl) (by rfl) (by simp only [go_sem, ↓reduceIte]) (by first | (simp only [go_sem]; done) | rfl) (by first | with_reducible rfl | (simp only [go_sem]; done)) (by first | (simp only [go_sem]; done) | rfl) (by decide) (by simp only [go_sem, List.length_nil]; omega) (by simp only [go_sem, List.length_nil]; omega) (by simp only [go_sem, true_and, true_or, and_self]) (by decide) (by decide) (by decide) ⟨Or.inl rfl, Or.inr rfl, Or.inr rfl, Or.inr rfl, trivial⟩ (by first | rfl | exact dl_rows _ | simp only [go_sem]) (by first | rfl | exact dl_rows _ | simp only [go_sem]) (by rfl) (by simp (disch := omega) only [go_sem, true_or, or_true, and_self, true_and, ↓reduceIte]) ?_; simp (disch := omega) only [go_sem, ↓reduceIte]; exact k) ?_
       obtain ⟨hg_41, hj_21⟩ := guardO_some hj_21
       obtain ⟨hg_42, hj_21⟩ := guardO_some hj_21
       iterate 4 (refine dd ?_ (by intro K k; simp (disch := omega) only [go_sem, true_or, or_true, and_self, true_and, and_true, ↓reduceIte]; exact k))
       refine dap rfl (by intro K k; refine OpX.app (S := [64, 68, 73, 10]) (L := dl (lenc Offer.pd ((l1.drop ((IntKind.i64.wrap (i1 + 1))).toNat).take (((l1.length : Int) : Int) - (IntKind.i64.wrap (i1 + 1))).toNat))) rfl rfl rfl rfl rfl (by decide) se22 (by simp only [go_sem]) (by rfl) (by rfl) (by simp only [go_sem, ↓reduceIte]) (by first | (simp only [go_sem]; done) | rfl) (by first | with_reducible rfl | (simp only [go_sem]; done)) (by first | (simp only [go_sem]; done) | rfl) (by decide) (by simp only [go_sem, List.length_nil]; omega) (by simp only [go_sem, List.length_nil]; omega) (by simp only [go_sem, true_and, true_or, and_self]) (by decide) (by decide) (by decide) ⟨Or.inr rfl, Or.inl rfl, Or.inr rfl, Or.inr rfl, trivial⟩ (by first | rfl | exact dl_rows _ | simp only [go_sem]) (by first | rfl | exact dl_rows _ | simp only [go_sem]) (by rfl) (by simp (disch := omega) only [go_sem, true_or, or_true, and_self, true_and, ↓reduceIte]) ?_; simp (disch := omega) only [go_sem, ↓reduceIte]; exact k) ?_
       refine dd ?_ (by intro K k; simp (disch := omega) only [go_sem, true_or, or_true, and_self, true_and, and_true, ↓reduceIte]; exact k)
       refine DOps.nil (by kernel_rfl) (k _ ?_)
       refine jm (ι := (List Offer)) [0, 1, 5, 7, 8] [] (fun i t => (10, .d (.imm 4 (lenc Offer.pd i))) :: t) (fun i t => t) .inl hj_21 ?_ ?_
       ·intro _ hj_44 hj_21
        refine sg fun K k => ?_
        refine oo ?_
        refine AOps.nil (k _ ?_)
        refine AWp.block ?_
        obtain ⟨x_49, hl_46, h2_47⟩ := bind_some hj_44
        refine lp (S := ((List Offer) × Int)) [0, 1, 5, 7, 8] [] (fun i t => (10, .d (.imm 4 (lenc Offer.pd i.1))) :: (11, .d (.int .i64 i.2)) :: t) (fun i t => t) hl_46 ?_ ?_; exact sc; clear hl_46
        rintro ⟨rest2, a1⟩ _ hb_48; unfold m_cocketlaw01_RateSpares_l3 at hb_48; try dsimp only at hb_48
        try dsimp only
        refine AWp.seq fun _ K_51 => ?_
        refine sg fun K k => ?_
        iterate 4 refine oo ?_
        refine ct 2 [0, 1, 5, 7, 8, 10, 11] [] (fun  t => (79, .d (.bool ((decide (a1 < n1)) && spare1))) :: t) ?_ ?_
        ·rcases bt (decide (a1 < n1)) with hg_53 | hg_53
         ·rw [hg_53]
          iterate 2 refine oo ?_
          refine AOps.nil ?_
          exact sb
         ·rw [hg_53]
          iterate 2 refine oo ?_
          refine AOps.nil ?_
          exact sb
        refine AOps.nil (k _ ?_)
        refine cd hb_48 (fun hb_48 => ?_) (fun hb_48 => ?_)
        ·refine AWp.skip ?_
         refine K_51 _ ?_
         refine jm (ι := Unit) [0, 1, 5, 7, 8, 10, 11] [] (fun i t => t) (fun i t => t) .inl hb_48 ?_ ?_
         ·intro _ hj_56 hb_48
          refine AWp.block ?_
          refine sg fun K k => ?_
          refine oo ?_
          refine AOps.nil (k _ ?_)
          refine AWp.block ?_
          obtain ⟨x_61, hl_58, h2_59⟩ := bind_some hj_56
          refine lp (S := Int) [0, 1, 5, 7, 8, 10, 11] [] (fun i t => (12, .d (.int .i64 i)) :: t) (fun i t => t) hl_58 ?_ ?_; exact sb; clear hl_58
          rintro b3 _ hb_60; unfold m_cocketlaw01_RateSpares_l4 at hb_60; try dsimp only at hb_60
          try dsimp only
          refine AWp.seq fun _ K_63 => ?_
          refine sg fun K k => ?_
          iterate 3 refine oo ?_
          refine AOps.nil (k _ ?_)
          refine cd hb_60 (fun hb_60 => ?_) (fun hb_60 => ?_)
          ·refine AWp.skip ?_
           refine K_63 _ ?_
           refine AWp.seq fun _ K_65 => ?_
           refine AWp.block ?_
           refine sg fun K k => ?_
           iterate 4 refine oo ?_
           obtain ⟨r4, hx_66, hb_60⟩ := bind_some hb_60
           refine cl (m_rate_Best_ok n1 l1 a1 b3 _ hx_66) ?_
           iterate 8 refine oo ?_
           refine AOps.nil (k _ ?_)
           refine sg fun K k => ?_
           iterate 4 refine oo ?_
           obtain ⟨r5, hx_67, hb_60⟩ := bind_some hb_60
           refine cl (m_rate_Best_ok n1 rest2 a1 b3 _ hx_67) ?_
           iterate 8 refine oo ?_
           refine AOps.nil (k _ ?_)
           refine sg fun K k => ?_
           iterate 4 refine oo ?_
           refine ct 4 [0, 1, 5, 7, 8, 10, 11, 12] [] (fun  t => (112, .d (.bool ((decide (¬r4.2.2 = r5.2.2)) || (!((r4.1.Num == r5.1.Num) && (r4.1.Den == r5.1.Den)))))) :: t) ?_ ?_
           ·rcases bt (decide (¬r4.2.2 = r5.2.2)) with hg_69 | hg_69
            ·rw [hg_69]
             iterate 4 refine oo ?_
             refine AOps.nil ?_
             exact sb
            ·rw [hg_69]
             iterate 2 refine oo ?_
             refine ox ?_ (by intro K k; simp (disch := omega) only [go_sem, fsl26, ↓reduceIte]; exact k)
             refine oo ?_
             refine AOps.nil ?_
             exact sb
           refine AOps.nil (k _ ?_)
           refine cd hb_60 (fun hb_60 => ?_) (fun hb_60 => ?_)
           ·refine sg fun K k => ?_
            refine oo ?_
            refine AOps.nil (k _ ?_)
            refine AWp.ret ?_
            refine lx hb_60 fun hx => ?_; cases hx; try dsimp only at h2_59
            cases h2_59; try dsimp only at hb_48
            refine lx hb_48 fun hx => ?_; cases hx; try dsimp only at h2_47
            cases h2_47; try dsimp only at hj_21
            cases hj_21; try dsimp only at hb_15
            refine lx hb_15 fun hx => ?_; cases hx; try dsimp only at h2_14
            cases h2_14; try dsimp only at h
            cases h; exact rt
           ·refine AWp.skip ?_
            refine K_65 _ ?_
            refine AWp.reg ?_
            iterate 3 refine oo ?_
            refine AOps.nil ?_
            exact ln hb_60 sb
          ·refine AWp.exit ?_
           refine lx hb_60 fun hx => ?_; cases hx; try dsimp only at h2_59
           exact ln h2_59 sb
         ·rintro _ hb_48; dsimp only at hb_48 ⊢
          refine AWp.reg ?_
          iterate 3 refine oo ?_
          refine AOps.nil ?_
          exact ln hb_48 sb
        ·refine AWp.exit ?_
         refine lx hb_48 fun hx => ?_; cases hx; try dsimp only at h2_47
         exact ln h2_47 sb
       ·rintro rest1 hj_21; dsimp only at hj_21 ⊢
        refine sd mo fun K k => ?_
        obtain ⟨e2, ⟨f_71, f_72, f_73, f_74⟩, hj_21⟩ := idx_bind hj_21
        iterate 6 refine dd ?_
        refine dd ?_ (by intro K k; simp (disch := omega) only [go_sem, f_73, ↓reduceIte]; exact k)
        iterate 4 refine dd ?_
        refine dd ?_ (by intro K k; simp (disch := omega) only [go_sem, f_73, ↓reduceIte]; exact k)
        obtain ⟨r6, hx_75, hj_21⟩ := bind_some hj_21
        refine dcl (m_rate_Best_ok n1 l1 e2.From e2.To _ hx_75) ?_
        iterate 8 refine dd ?_
        refine DOps.nil (by kernel_rfl) (k _ ?_)
        refine sd mo fun K k => ?_
        obtain ⟨e3, ⟨f_76, f_77, f_78, f_79⟩, hj_21⟩ := idx_bind hj_21
        iterate 6 refine dd ?_
        refine dd ?_ (by intro K k; simp (disch := omega) only [go_sem, f_78, ↓reduceIte]; exact k)
        iterate 4 refine dd ?_
        refine dd ?_ (by intro K k; simp (disch := omega) only [go_sem, f_78, ↓reduceIte]; exact k)
        obtain ⟨r7, hx_80, hj_21⟩ := bind_some hj_21
        refine dcl (m_rate_Best_ok n1 rest1 e3.From e3.To _ hx_80) ?_
        iterate 8 refine dd ?_
        refine DOps.nil (by kernel_rfl) (k _ ?_)
        refine sg fun K k => ?_
        iterate 3 refine oo ?_
        obtain ⟨b4, hc_81, hj_21⟩ := bind_some hj_21
        refine ct 22 [0, 1, 5, 7] [] (fun  t => (171, .d (.bool b4)) :: t) ?_ ?_
        ·rcases bt (decide (¬r6.2.2 = 0)) with hg_93 | hg_93
         ·rw [hg_93]
          rw [hg_93, cond_true] at hc_81
          iterate 22 refine oo ?_
          refine AOps.nil ?_
          cases hc_81
          exact sb
         ·rw [hg_93]
          rw [hg_93, cond_false] at hc_81
          iterate 3 refine oo ?_
          refine ct 3 [0, 1, 5, 7, 19, 22, 149, 150, 151, 152] [1000, 1001] (fun  t => (155, .d (.bool ((!spare1) && (decide (r7.2.2 = 0))))) :: t) ?_ ?_
          ·rcases bt (!spare1) with hg_83 | hg_83
           ·rw [hg_83]
            iterate 3 refine oo ?_
            refine AOps.nil ?_
            exact sb
           ·rw [hg_83]
            iterate 3 refine oo ?_
            refine AOps.nil ?_
            exact sb
          refine oo ?_
          obtain ⟨b5, hc_84, hc_81⟩ := bind_some hc_81
          refine ct 14 [0, 1, 5, 7, 149, 150, 151, 152, 155, 156] [] (fun  t => (170, .d (.bool b5)) :: t) ?_ ?_
          ·rcases bt ((!spare1) && (decide (r7.2.2 = 0))) with hg_92 | hg_92
           ·rw [hg_92]
            rw [hg_92, cond_true] at hc_84
            refine oo ?_
            obtain ⟨r8, hx_85, hc_84⟩ := bind_some hc_84
            refine cl (m_cocketlaw01_whole_ok r6.1 _ hx_85) ?_
            iterate 2 refine oo ?_
            obtain ⟨b6, hc_86, hc_84⟩ := bind_some hc_84
            refine ct 4 [0, 1, 5, 7, 19, 22, 149, 150, 151, 152, 155, 156, 157, 158, 159, 160] [1000, 1001] (fun  t => (164, .d (.bool b6)) :: t) ?_ ?_
            ·rcases bt (!r8) with hg_88 | hg_88
             ·rw [hg_88]
              rw [hg_88, cond_true] at hc_86
              iterate 4 refine oo ?_
              refine AOps.nil ?_
              cases hc_86
              exact sb
             ·rw [hg_88]
              rw [hg_88, cond_false] at hc_86
              refine oo ?_
              obtain ⟨r9, hx_87, hc_86⟩ := bind_some hc_86
              refine cl (m_cocketlaw01_whole_ok r7.1 _ hx_87) ?_
              iterate 2 refine oo ?_
              refine AOps.nil ?_
              cases hc_86
              exact sb
            refine oo ?_
            obtain ⟨b7, hc_89, hc_84⟩ := bind_some hc_84
            refine ct 4 [0, 1, 5, 7, 149, 150, 151, 152, 155, 156, 157, 158, 159, 160, 164, 165] [] (fun  t => (169, .d (.bool b7)) :: t) ?_ ?_
            ·rcases bt b6 with hg_91 | hg_91
             ·rw [hg_91]
              rw [hg_91, cond_true] at hc_89
              iterate 4 refine oo ?_
              refine AOps.nil ?_
              cases hc_89
              exact sb
             ·rw [hg_91]
              rw [hg_91, cond_false] at hc_89
              iterate 2 refine oo ?_
              obtain ⟨r10, hx_90, hc_89⟩ := bind_some hc_89
              refine cl (m_cocketlaw01_less_ok r6.1 r7.1 _ hx_90) ?_
              refine oo ?_
              refine AOps.nil ?_
              cases hc_89
              exact sb
            refine oo ?_
            refine AOps.nil ?_
            cases hc_84
            exact sb
           ·rw [hg_92]
            rw [hg_92, cond_false] at hc_84
            iterate 14 refine oo ?_
            refine AOps.nil ?_
            cases hc_84
            exact sb
          refine oo ?_
          refine AOps.nil ?_
          cases hc_81
          exact sb
        refine AOps.nil (k _ ?_)
        refine cd hj_21 (fun hj_21 => ?_) (fun hj_21 => ?_)
        ·refine sg fun K k => ?_
         refine oo ?_
         refine AOps.nil (k _ ?_)
         refine AWp.ret ?_
         cases hj_21; try dsimp only at hb_15
         refine lx hb_15 fun hx => ?_; cases hx; try dsimp only at h2_14
         cases h2_14; try dsimp only at h
         cases h; exact rt
        ·refine AWp.skip ?_
         exact ln hj_21 sb
     ·rintro _ hb_15; dsimp only at hb_15 ⊢
      refine AWp.reg ?_
      iterate 3 refine oo ?_
      refine AOps.nil ?_
      exact ln hb_15 sb
    ·refine AWp.exit ?_
     refine lx hb_15 fun hx => ?_; cases hx; try dsimp only at h2_14
     exact ln h2_14 sb
   ·rintro _ h; dsimp only at h ⊢
    refine sg fun K k => ?_
    obtain ⟨r11, hx_95, h⟩ := bind_some h
    refine cl (m_cocketlaw01_alive_ok _ hx_95) ?_
    refine oo ?_
    refine AOps.nil (k _ ?_)
    refine AWp.ret ?_
    cases h; exact rt
end Go.Pv.Tryd

namespace Go.Pv.Tryd
open Go Go.Proofs Go.Pv Go.ChangeShapes Go.WideShapes Go.ChangeAt Go.RowKit Go.Proofs.YtmnemlihimnofaaDoor
set_option maxRecDepth 100000 in
theorem spares_lifted (os : Os) (started : os.Started) (H : Type) (enc : TypeId × Value → H) :
    ReturnsInHanded {} Tryd.checked os 9 .any (fun w args => (Rows.rateSparesSpec.pre enc Tryd.prog Tryd.f9 [] false w args ∧ laidMetH Tryd.prog laid1 w) ∧ sizedMet enc Tryd.prog Tryd.f9 (OpenSpec.ofChange Rows.rateSparesSpec) false w args)
      (Rows.rateSparesSpec.post enc Tryd.prog Tryd.f9 false true false false) := by
  refine returnsInHanded_of_change_and (C := Tryd.checked) (X := fun w _ => laidMetH Tryd.prog laid1 w) (fun _ _ _ hh h => h.of_heap hh) own started (by kernel_rfl) Tryd.func9
    (ChangeSpec.witness_shaped (enc := enc) (C := Tryd.checked) (os := os) (X := fun w _ => laidMetH Tryd.prog laid1 w) false (World.doorLaid Tryd.prog 400 os) #[.int .i64 0, .slice none 0 0] 8 rfl (World.shaped_of_RefB (by kernel_rfl) (by kernel_rfl)) (by kernel_rfl) (by kernel_rfl) (by kernel_rfl) (door_met os _)) ?_
  intro W base args ds gs before hval0 hW _ _ hL _
  have hval : ∀ (j : Nat) t v, Tryd.f9.params[j]? = some t → args[j]? = some v → Value.okWide Tryd.prog W .any base t v := hval0
  have hW' := hW
  obtain ⟨p, q, hA0, hV, rfl, hfz, hnd⟩ := hW
  have hA : DataW.TrodAll enc Tryd.prog W 0 (fun _ => true) true Tryd.f9.params.toList args.toList ds p := hA0
  obtain ⟨rfl, rfl⟩ := trodVars_none hV
  rw [Tryd.params9] at hA hval
  obtain ⟨v0, vs0, d0, ds0, p0, q0, ha, rfl, rfl, t0, hA⟩ := trodAll_cons hA
  obtain ⟨v1, vs1, d1, ds1, p1, q1, rfl, rfl, rfl, t1, hA⟩ := trodAll_cons hA
  obtain ⟨rfl, rfl, rfl⟩ := trodAll_nil hA
  have hargs : args = #[v0, v1] := Array.toList_inj.1 ha
  subst hargs
  obtain ⟨x0, r0⟩ := rep_arg_int Tryd.underlying3 (hval 0 3 v0 rfl rfl)
  obtain ⟨x1, r1⟩ := rep_arg_slice Tryd.underlying22 opens_Offer (by decide) (hval 1 22 v1 rfl rfl) t1
  have hw := calls_of_pure (args := [.int .i64 x0, .imm 4 (lenc Offer.pd x1)]) (vs := [v0, v1]) (m_cocketlaw01_RateSpares_ok x0 x1 true (RateSpares_law x0 x1)) rfl (fun i hi => by
    match i, hi with
    | 0, _ => exact r0
    | 1, _ => exact r1) (glob_of_laid hL)
  refine hw.mono fun e W' ⟨he, hs⟩ => ?_
  subst he
  exact ⟨_, rfl, law_post rfl hW' hs rfl (t := 4) (by rfl) Tryd.underlying4 laidOut (by kernel_rfl)⟩
theorem spares_said : Rows.RateSparesSaid :=
  OpenClaim.holds_of_wide 9 Tryd.f9 rfl rfl rfl rfl rfl rfl rfl ⟨rfl, rfl, rfl, rfl, rfl⟩ rfl rfl rfl rfl rfl (by kernel_rfl) Tryd.func9 (by kernel_rfl)
    (of_decide_eq_true (by kernel_rfl)) (by unfold Func.isWrapper; first | (rw [if_pos (by decide +kernel)]; kernel_rfl) | (rw [if_neg (by decide +kernel)]; exact ⟨rfl, rfl⟩))
    (fun os started H enc _ => spares_lifted os started H enc)
theorem spares_card : Rows.RateSparesCardSaid :=
  Claim7.holds_tied_plain_at .later [] [.data] true Rows.rateSparesCard.stood.harness false
    spares_said (fun _ h => by cases h) (by kernel_rfl) (fun _ h => by cases h) rateSpares_row_tie rfl ⟨rfl, rfl⟩ (by kernel_rfl) rfl
    (fun f fn hf hfn => by
      obtain rfl : f = 9 := Option.some.inj ((show Tryd.prog.funcNamed Rows.rateSparesRow.func = some 9 by kernel_rfl).symm.trans hf) |>.symm
      obtain rfl : fn = Tryd.f9 := (Option.some.inj (Tryd.func9.symm.trans hfn)).symm
      exact ⟨by kernel_rfl, fun j t ht => by
        rw [Tryd.params9] at ht
        have hm : t ∈ [3, 22] := by simpa using Array.mem_of_getElem? ht
        have hall : ([3, 22].all fun u => !Tryd.prog.wantsStandIn u) = true := by kernel_rfl
        exact (show Tryd.prog.wantsStandIn t = false by simpa using List.all_eq_true.1 hall t hm)⟩)
    (by kernel_rfl)
end Go.Pv.Tryd

namespace Go.Proofs.YtmnemlihimnofaaDoor

theorem spares_card : Rows.RateSparesCardSaid := Go.Pv.Tryd.spares_card

#print axioms spares_card

end Go.Proofs.YtmnemlihimnofaaDoor
