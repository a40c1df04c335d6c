/- TariffWitnesses answers true for every input, as its tied card says: under the conditions of the card (Rows, Cards, Tie), no more. Part 7 of 8: by one AI agent and its programs; no person has read it. -/
import Derived.Test.YtnfnkllhjaemnaaDoorTariffWitnessesA
import Derived.Test.YtnfnkllhjaemnaaDoorTariffWitnessesB
import Derived.Test.YtnfnkllhjaemnaaDoorTariffWitnessesC
import Derived.Test.YtnfnkllhjaemnaaDoorTariffWitnessesD
import Derived.Test.YtnfnkllhjaemnaaDoorTariffWitnessesE
import Derived.Test.YtnfnkllhjaemnaaDoorTariffWitnessesF
set_option linter.unusedSimpArgs false
set_option linter.unusedVariables false
set_option linter.all false

namespace Go.Pv.Tryd
open Go.Proofs Go.Pv
set_option maxHeartbeats 4000000 in
theorem m_cocketlaw02_TariffWitnesses_ok (k1 : Int) (s1 : (List Rule)) (t1 : (List Rule)) (i1 : Int) (j1 : Int) (thing1 : (List Int)) (r : Bool) (h : m_cocketlaw02_TariffWitnesses k1 s1 t1 i1 j1 thing1 = some r) : PureFn Tryd.prog G 16 [.d (.int .i64 k1), .d (.imm 2 (lenc Rule.pd s1)), .d (.imm 2 (lenc Rule.pd t1)), .d (.int .i64 i1), .d (.int .i64 j1), .d (.imm 1 (lenc (PD.int .i64) thing1))] (.d (.bool r)) := by
 unfold m_cocketlaw02_TariffWitnesses at h
 refine pf Tryd.func16 Tryd.ntmps16 ?_
 refine sg fun K k => ?_
 refine oo ?_
 refine AOps.nil (k _ ?_)
 refine AWp.seq fun _ K_1 => ?_
 refine sg fun K k => ?_
 iterate 2 refine oo ?_
 obtain ⟨r1, hx_2, h⟩ := bind_some h
 refine cl (m_cocketlaw02_few_ok k1 s1 _ hx_2) ?_
 iterate 2 refine oo ?_
 obtain ⟨b1, hc_3, h⟩ := bind_some h
 refine ct 5 [0, 1, 2, 3, 4, 5] [] (fun  t => (48, .d (.bool b1)) :: t) ?_ ?_
 ·rcases bt (!r1) with hg_5 | hg_5
  ·rw [hg_5]
   rw [hg_5, cond_true] at hc_3
   iterate 5 refine oo ?_
   refine AOps.nil ?_
   cases hc_3
   exact sb
  ·rw [hg_5]
   rw [hg_5, cond_false] at hc_3
   iterate 2 refine oo ?_
   obtain ⟨r2, hx_4, hc_3⟩ := bind_some hc_3
   refine cl (m_cocketlaw02_few_ok k1 t1 _ hx_4) ?_
   iterate 2 refine oo ?_
   refine AOps.nil ?_
   cases hc_3
   exact sb
 refine oo ?_
 refine ct 4 [0, 1, 2, 3, 4, 5] [] (fun  t => (53, .d (.bool (b1 || (decide (20 < (thing1.length : Int)))))) :: t) ?_ ?_
 ·rcases bt b1 with hg_7 | hg_7
  ·rw [hg_7]
   iterate 4 refine oo ?_
   refine AOps.nil ?_
   exact sb
  ·rw [hg_7]
   iterate 4 refine oo ?_
   refine AOps.nil ?_
   exact sb
 refine oo ?_
 obtain ⟨b2, hc_8, h⟩ := bind_some h
 refine ct 5 [0, 1, 2, 3, 4, 5] [] (fun  t => (59, .d (.bool b2)) :: t) ?_ ?_
 ·rcases bt (b1 || (decide (20 < (thing1.length : Int)))) with hg_10 | hg_10
  ·rw [hg_10]
   rw [hg_10, cond_true] at hc_8
   iterate 5 refine oo ?_
   refine AOps.nil ?_
   cases hc_8
   exact sb
  ·rw [hg_10]
   rw [hg_10, cond_false] at hc_8
   iterate 2 refine oo ?_
   obtain ⟨r3, hx_9, hc_8⟩ := bind_some hc_8
   refine cl (m_cocketref02_Good_ok k1 s1 _ hx_9) ?_
   iterate 2 refine oo ?_
   refine AOps.nil ?_
   cases hc_8
   exact sb
 refine oo ?_
 obtain ⟨b3, hc_11, h⟩ := bind_some h
 refine ct 5 [0, 1, 2, 3, 4, 5] [] (fun  t => (65, .d (.bool b3)) :: t) ?_ ?_
 ·rcases bt b2 with hg_13 | hg_13
  ·rw [hg_13]
   rw [hg_13, cond_true] at hc_11
   iterate 5 refine oo ?_
   refine AOps.nil ?_
   cases hc_11
   exact sb
  ·rw [hg_13]
   rw [hg_13, cond_false] at hc_11
   iterate 2 refine oo ?_
   obtain ⟨r4, hx_12, hc_11⟩ := bind_some hc_11
   refine cl (m_cocketref02_Good_ok k1 t1 _ hx_12) ?_
   iterate 2 refine oo ?_
   refine AOps.nil ?_
   cases hc_11
   exact sb
 refine AOps.nil (k _ ?_)
 refine cd h (fun h => ?_) (fun h => ?_)
 ·refine sg fun K k => ?_
  obtain ⟨r5, hx_15, h⟩ := bind_some h
  refine cl (m_cocketlaw02_alive_ok _ hx_15) ?_
  refine oo ?_
  refine AOps.nil (k _ ?_)
  refine AWp.ret ?_
  cases h; exact rt
 ·refine AWp.skip ?_
  refine K_1 _ ?_
  refine sg fun K k => ?_
  iterate 2 refine oo ?_
  obtain ⟨r6, hx_16, h⟩ := bind_some h
  refine cl (m_cocketref02_Thing_ok k1 thing1 _ hx_16) ?_
  refine oo ?_
  refine AOps.nil (k _ ?_)
  refine sg fun K k => ?_
  iterate 3 refine oo ?_
  obtain ⟨r7, hx_17, h⟩ := bind_some h
  refine cl (m_tariff_Code_ok k1 s1 thing1 _ hx_17) ?_
  iterate 7 refine oo ?_
  refine AOps.nil (k _ ?_)
  refine sg fun K k => ?_
  iterate 3 refine oo ?_
  obtain ⟨r8, hx_18, h⟩ := bind_some h
  refine cl (m_tariff_Code_ok k1 t1 thing1 _ hx_18) ?_
  iterate 7 refine oo ?_
  refine AOps.nil (k _ ?_)
  refine sg fun K k => ?_
  iterate 2 refine oo ?_
  obtain ⟨r9, hx_19, h⟩ := bind_some h
  refine cl (m_tariff_Gap_ok k1 s1 _ hx_19) ?_
  iterate 5 refine oo ?_
  refine AOps.nil (k _ ?_)
  refine jm (ι := Unit) [0, 1, 2, 3, 4, 5, 13, 14, 16, 17, 19, 20, 21] [] (fun i t => t) (fun i t => t) .inl h ?_ ?_
  ·intro _ hj_21 h
   refine sg fun K k => ?_
   iterate 2 refine oo ?_
   refine AOps.nil (k _ ?_)
   refine cd hj_21 (fun hj_21 => ?_) (fun hj_21 => ?_)
   ·refine sg fun K k => ?_
    iterate 3 refine oo ?_
    obtain ⟨r10, hx_23, hj_21⟩ := bind_some hj_21
    refine cl (m_tariff_Code_ok k1 s1 r9.1 _ hx_23) ?_
    iterate 7 refine oo ?_
    refine AOps.nil (k _ ?_)
    refine sg fun K k => ?_
    iterate 2 refine oo ?_
    refine AOps.nil (k _ ?_)
    refine cd hj_21 (fun hj_21 => ?_) (fun hj_21 => ?_)
    ·refine sg fun K k => ?_
     refine oo ?_
     refine AOps.nil (k _ ?_)
     refine AWp.ret ?_
     cases hj_21; try dsimp only at h
     cases h; exact rt
    ·refine AWp.skip ?_
     exact ln hj_21 sb
   ·refine AWp.skip ?_
    exact ln hj_21 sb
  ·rintro _ h; dsimp only at h ⊢
   refine AWp.seq fun _ K_25 => ?_
   refine sg fun K k => ?_
   iterate 2 refine oo ?_
   refine ct 3 [0, 1, 2, 3, 4, 5, 13, 14, 16, 17, 19, 20, 21] [] (fun  t => (108, .d (.bool (r6 && (decide (r7.2.2 = 6))))) :: t) ?_ ?_
   ·rcases bt r6 with hg_27 | hg_27
    ·rw [hg_27]
     iterate 3 refine oo ?_
     refine AOps.nil ?_
     exact sb
    ·rw [hg_27]
     iterate 3 refine oo ?_
     refine AOps.nil ?_
     exact sb
   refine oo ?_
   obtain ⟨b4, hc_28, h⟩ := bind_some h
   refine ct 8 [0, 1, 2, 3, 4, 5, 13, 14, 16, 17, 19] [] (fun  t => (117, .d (.bool b4)) :: t) ?_ ?_
   ·rcases bt (r6 && (decide (r7.2.2 = 6))) with hg_32 | hg_32
    ·rw [hg_32]
     rw [hg_32, cond_true] at hc_28
     iterate 3 refine oo ?_
     obtain ⟨b5, hc_29, hc_28⟩ := bind_some hc_28
     refine ct 4 [0, 1, 2, 3, 4, 5, 13, 14, 16, 17, 19, 109] [] (fun  t => (116, .d (.bool b5)) :: t) ?_ ?_
     ·rcases bt (decide (¬r9.2 = 0)) with hg_31 | hg_31
      ·rw [hg_31]
       rw [hg_31, cond_true] at hc_29
       iterate 4 refine oo ?_
       refine AOps.nil ?_
       cases hc_29
       exact sb
      ·rw [hg_31]
       rw [hg_31, cond_false] at hc_29
       iterate 2 refine oo ?_
       obtain ⟨r11, hx_30, hc_29⟩ := bind_some hc_29
       refine cl (m_cocketlaw02_before_ok thing1 r9.1 _ hx_30) ?_
       refine oo ?_
       refine AOps.nil ?_
       cases hc_29
       exact sb
     refine oo ?_
     refine AOps.nil ?_
     cases hc_28
     exact sb
    ·rw [hg_32]
     rw [hg_32, cond_false] at hc_28
     iterate 8 refine oo ?_
     refine AOps.nil ?_
     cases hc_28
     exact sb
   refine AOps.nil (k _ ?_)
   refine cd h (fun h => ?_) (fun h => ?_)
   ·refine sg fun K k => ?_
    refine oo ?_
    refine AOps.nil (k _ ?_)
    refine AWp.ret ?_
    cases h; exact rt
   ·refine AWp.skip ?_
    refine K_25 _ ?_
    refine sg fun K k => ?_
    iterate 3 refine oo ?_
    obtain ⟨r12, hx_34, h⟩ := bind_some h
    refine cl (m_tariff_Differ_ok k1 s1 t1 _ hx_34) ?_
    iterate 5 refine oo ?_
    refine AOps.nil (k _ ?_)
    refine jm (ι := Unit) [0, 1, 3, 4, 5, 13, 14, 16, 17, 19, 21, 25] [] (fun i t => t) (fun i t => t) .inl h ?_ ?_
    ·intro _ hj_36 h
     refine sg fun K k => ?_
     iterate 2 refine oo ?_
     refine AOps.nil (k _ ?_)
     refine cd hj_36 (fun hj_36 => ?_) (fun hj_36 => ?_)
     ·refine sg fun K k => ?_
      iterate 3 refine oo ?_
      obtain ⟨r13, hx_38, hj_36⟩ := bind_some hj_36
      refine cl (m_tariff_Code_ok k1 s1 r12.1 _ hx_38) ?_
      iterate 7 refine oo ?_
      refine AOps.nil (k _ ?_)
      refine sg fun K k => ?_
      iterate 3 refine oo ?_
      obtain ⟨r14, hx_39, hj_36⟩ := bind_some hj_36
      refine cl (m_tariff_Code_ok k1 t1 r12.1 _ hx_39) ?_
      iterate 7 refine oo ?_
      refine AOps.nil (k _ ?_)
      refine sg fun K k => ?_
      iterate 4 refine oo ?_
      refine ct 4 [0, 1, 3, 4, 5, 13, 14, 16, 17, 19, 21, 25] [] (fun  t => (150, .d (.bool ((decide (r13.2.2 = r14.2.2)) && (decide (r13.1 = r14.1))))) :: t) ?_ ?_
      ·rcases bt (decide (r13.2.2 = r14.2.2)) with hg_41 | hg_41
       ·rw [hg_41]
        iterate 4 refine oo ?_
        refine AOps.nil ?_
        exact sb
       ·rw [hg_41]
        iterate 4 refine oo ?_
        refine AOps.nil ?_
        exact sb
      refine AOps.nil (k _ ?_)
      refine cd hj_36 (fun hj_36 => ?_) (fun hj_36 => ?_)
      ·refine sg fun K k => ?_
       refine oo ?_
       refine AOps.nil (k _ ?_)
       refine AWp.ret ?_
       cases hj_36; try dsimp only at h
       cases h; exact rt
      ·refine AWp.skip ?_
       exact ln hj_36 sb
     ·refine AWp.skip ?_
      exact ln hj_36 sb
    ·rintro _ h; dsimp only at h ⊢
     refine AWp.seq fun _ K_43 => ?_
     refine sg fun K k => ?_
     iterate 2 refine oo ?_
     refine ct 9 [0, 1, 3, 4, 5, 21, 25] [] (fun  t => (161, .d (.bool (r6 && ((decide (¬r7.1 = r8.1)) || (decide (¬r7.2.2 = r8.2.2)))))) :: t) ?_ ?_
     ·rcases bt r6 with hg_47 | hg_47
      ·rw [hg_47]
       iterate 4 refine oo ?_
       refine ct 4 [0, 1, 3, 4, 5, 21, 25, 152] [] (fun  t => (160, .d (.bool ((decide (¬r7.1 = r8.1)) || (decide (¬r7.2.2 = r8.2.2))))) :: t) ?_ ?_
       ·rcases bt (decide (¬r7.1 = r8.1)) with hg_46 | hg_46
        ·rw [hg_46]
         iterate 4 refine oo ?_
         refine AOps.nil ?_
         exact sb
        ·rw [hg_46]
         iterate 4 refine oo ?_
         refine AOps.nil ?_
         exact sb
       refine oo ?_
       refine AOps.nil ?_
       exact sb
      ·rw [hg_47]
       iterate 9 refine oo ?_
       refine AOps.nil ?_
       exact sb
     refine oo ?_
     obtain ⟨b6, hc_48, h⟩ := bind_some h
     refine ct 8 [0, 1, 3, 4] [] (fun  t => (170, .d (.bool b6)) :: t) ?_ ?_
     ·rcases bt (r6 && ((decide (¬r7.1 = r8.1)) || (decide (¬r7.2.2 = r8.2.2)))) with hg_52 | hg_52
      ·rw [hg_52]
       rw [hg_52, cond_true] at hc_48
       iterate 3 refine oo ?_
       obtain ⟨b7, hc_49, hc_48⟩ := bind_some hc_48
       refine ct 4 [0, 1, 3, 4, 162] [] (fun  t => (169, .d (.bool b7)) :: t) ?_ ?_
       ·rcases bt (decide (¬r12.2 = 0)) with hg_51 | hg_51
        ·rw [hg_51]
         rw [hg_51, cond_true] at hc_49
         iterate 4 refine oo ?_
         refine AOps.nil ?_
         cases hc_49
         exact sb
        ·rw [hg_51]
         rw [hg_51, cond_false] at hc_49
         iterate 2 refine oo ?_
         obtain ⟨r15, hx_50, hc_49⟩ := bind_some hc_49
         refine cl (m_cocketlaw02_before_ok thing1 r12.1 _ hx_50) ?_
         refine oo ?_
         refine AOps.nil ?_
         cases hc_49
         exact sb
       refine oo ?_
       refine AOps.nil ?_
       cases hc_48
       exact sb
      ·rw [hg_52]
       rw [hg_52, cond_false] at hc_48
       iterate 8 refine oo ?_
       refine AOps.nil ?_
       cases hc_48
       exact sb
     refine AOps.nil (k _ ?_)
     refine cd h (fun h => ?_) (fun h => ?_)
     ·refine sg fun K k => ?_
      refine oo ?_
      refine AOps.nil (k _ ?_)
      refine AWp.ret ?_
      cases h; exact rt
     ·refine AWp.skip ?_
      refine K_43 _ ?_
      refine sg fun K k => ?_
      iterate 4 refine oo ?_
      obtain ⟨r16, hx_54, h⟩ := bind_some h
      refine cl (m_tariff_Clash_ok k1 s1 i1 j1 _ hx_54) ?_
      iterate 5 refine oo ?_
      refine AOps.nil (k _ ?_)
      refine jm (ι := Unit) [] [] (fun i t => t) (fun i t => t) .inl h ?_ ?_
      ·intro _ hj_56 h
       refine sg fun K k => ?_
       iterate 2 refine oo ?_
       refine AOps.nil (k _ ?_)
       refine cd hj_56 (fun hj_56 => ?_) (fun hj_56 => ?_)
       ·refine sg fun K k => ?_
        obtain ⟨hg_58, hj_56⟩ := guardO_some hj_56
        iterate 7 refine oo ?_
        obtain ⟨r17, hx_59, hj_56⟩ := bind_some hj_56
        refine cl (m_tariff_Code_ok k1 ((s1.drop (i1).toNat).take (((IntKind.i64.wrap (i1 + 1)) : Int) - i1).toNat) r16.1 _ hx_59) ?_
        iterate 7 refine oo ?_
        refine AOps.nil (k _ ?_)
        refine sg fun K k => ?_
        obtain ⟨hg_60, hj_56⟩ := guardO_some hj_56
        iterate 7 refine oo ?_
        obtain ⟨r18, hx_61, hj_56⟩ := bind_some hj_56
        refine cl (m_tariff_Code_ok k1 ((s1.drop (j1).toNat).take (((IntKind.i64.wrap (j1 + 1)) : Int) - j1).toNat) r16.1 _ hx_61) ?_
        iterate 7 refine oo ?_
        refine AOps.nil (k _ ?_)
        refine sg fun K k => ?_
        iterate 3 refine oo ?_
        refine ct 3 [33, 36] [] (fun  t => (210, .d (.bool ((decide (¬r17.2.2 = 0)) || (decide (¬r18.2.2 = 0))))) :: t) ?_ ?_
        ·rcases bt (decide (¬r17.2.2 = 0)) with hg_63 | hg_63
         ·rw [hg_63]
          iterate 3 refine oo ?_
          refine AOps.nil ?_
          exact sb
         ·rw [hg_63]
          iterate 3 refine oo ?_
          refine AOps.nil ?_
          exact sb
        refine oo ?_
        refine ct 4 [] [] (fun  t => (215, .d (.bool (((decide (¬r17.2.2 = 0)) || (decide (¬r18.2.2 = 0))) || (decide (r17.1 = r18.1))))) :: t) ?_ ?_
        ·rcases bt ((decide (¬r17.2.2 = 0)) || (decide (¬r18.2.2 = 0))) with hg_65 | hg_65
         ·rw [hg_65]
          iterate 4 refine oo ?_
          refine AOps.nil ?_
          exact sb
         ·rw [hg_65]
          iterate 4 refine oo ?_
          refine AOps.nil ?_
          exact sb
        refine AOps.nil (k _ ?_)
        refine cd hj_56 (fun hj_56 => ?_) (fun hj_56 => ?_)
        ·refine sg fun K k => ?_
         refine oo ?_
         refine AOps.nil (k _ ?_)
         refine AWp.ret ?_
         cases hj_56; try dsimp only at h
         cases h; exact rt
        ·refine AWp.skip ?_
         exact ln hj_56 sb
       ·refine AWp.skip ?_
        exact ln hj_56 sb
      ·rintro _ h; dsimp only at h ⊢
       refine sg fun K k => ?_
       obtain ⟨r19, hx_67, h⟩ := bind_some h
       refine cl (m_cocketlaw02_alive_ok _ hx_67) ?_
       refine oo ?_
       refine AOps.nil (k _ ?_)
       refine AWp.ret ?_
       cases h; exact rt
end Go.Pv.Tryd

