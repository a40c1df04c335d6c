/- TariffClashes answers true for every input, as its tied card says: under the conditions of the card (Rows, Cards, Tie), no more. Part 6 of 6: by one AI agent and its programs; no person has read it. -/
import Derived.Test.YtnfnkllhjaemnaaDoorTariffClashesA
import Derived.Test.YtnfnkllhjaemnaaDoorTariffClashesB
import Derived.Test.YtnfnkllhjaemnaaDoorTariffClashesC
import Derived.Test.YtnfnkllhjaemnaaDoorTariffClashesD
import Derived.Test.YtnfnkllhjaemnaaDoorTariffClashesE
import Derived.Test.YtnfnkllhjaemnaaDoorCards
import Derived.Test.YtnfnkllhjaemnaaDoorTie
import Derived.SevenTiedAt
set_option linter.unusedSimpArgs false
set_option linter.unusedVariables false
set_option linter.all false

namespace Go.Pv.Tryd
open Go.Proofs Go.Pv
theorem m_cocketlaw02_same_ok (a1 : (List Int)) (b1 : (List Int)) (r : Bool) (h : m_cocketlaw02_same a1 b1 = some r) : PureFn Tryd.prog G 23 [.d (.imm 1 (lenc (PD.int .i64) a1)), .d (.imm 1 (lenc (PD.int .i64) b1))] (.d (.bool r)) := by
 unfold m_cocketlaw02_same at h
 refine pf Tryd.func23 Tryd.ntmps23 ?_
 refine sg fun K k => ?_
 refine oo ?_
 refine AOps.nil (k _ ?_)
 refine AWp.seq fun _ K_1 => ?_
 refine sg fun K k => ?_
 iterate 5 refine oo ?_
 refine AOps.nil (k _ ?_)
 refine cd h (fun h => ?_) (fun h => ?_)
 ·refine sg fun K k => ?_
  refine oo ?_
  refine AOps.nil (k _ ?_)
  refine AWp.ret ?_
  cases h; exact rt
 ·refine AWp.skip ?_
  refine K_1 _ ?_
  refine jm (ι := Unit) [] [] (fun i t => t) (fun i t => t) .inl h ?_ ?_
  ·intro _ hj_4 h
   refine sg fun K k => ?_
   refine oo ?_
   refine AOps.nil (k _ ?_)
   refine AWp.block ?_
   obtain ⟨x_9, hl_6, h2_7⟩ := bind_some hj_4
   refine lp (S := Int) [0, 1] [] (fun i t => (5, .d (.int .i64 i)) :: t) (fun i t => t) hl_6 ?_ ?_; exact sb; clear hl_6
   rintro i1 _ hb_8; unfold m_cocketlaw02_same_l1 at hb_8; try dsimp only at hb_8
   try dsimp only
   refine AWp.seq fun _ K_11 => ?_
   refine sg fun K k => ?_
   iterate 4 refine oo ?_
   refine AOps.nil (k _ ?_)
   refine cd hb_8 (fun hb_8 => ?_) (fun hb_8 => ?_)
   ·refine AWp.skip ?_
    refine K_11 _ ?_
    refine AWp.seq fun _ K_13 => ?_
    refine AWp.block ?_
    refine sd mo fun K k => ?_
    obtain ⟨e1, ⟨f_14, f_15, f_16, f_17⟩, hb_8⟩ := idx_bind hb_8
    iterate 3 refine dd ?_
    refine dd ?_ (by intro K k; simp (disch := omega) only [go_sem, f_16, ↓reduceIte]; exact k)
    obtain ⟨e2, ⟨f_18, f_19, f_20, f_21⟩, hb_8⟩ := idx_bind hb_8
    iterate 3 refine dd ?_
    refine dd ?_ (by intro K k; simp (disch := omega) only [go_sem, f_20, ↓reduceIte]; exact k)
    refine dd ?_
    refine DOps.nil (by kernel_rfl) (k _ ?_)
    refine cd hb_8 (fun hb_8 => ?_) (fun hb_8 => ?_)
    ·refine sg fun K k => ?_
     refine oo ?_
     refine AOps.nil (k _ ?_)
     refine AWp.ret ?_
     refine lx hb_8 fun hx => ?_; cases hx; try dsimp only at h2_7
     cases h2_7; try dsimp only at h
     cases h; exact rt
    ·refine AWp.skip ?_
     refine K_13 _ ?_
     refine AWp.reg ?_
     iterate 3 refine oo ?_
     refine AOps.nil ?_
     exact ln hb_8 sb
   ·refine AWp.exit ?_
    refine lx hb_8 fun hx => ?_; cases hx; try dsimp only at h2_7
    exact ln h2_7 sb
  ·rintro _ h; dsimp only at h ⊢
   refine sg fun K k => ?_
   refine oo ?_
   refine AOps.nil (k _ ?_)
   refine AWp.ret ?_
   cases h; exact rt
end Go.Pv.Tryd

namespace Go.Pv.Tryd
open Go.Proofs Go.Pv
set_option maxHeartbeats 4000000 in
theorem m_cocketlaw02_alive_ok (r : Bool) (h : m_cocketlaw02_alive = some r) : PureFn Tryd.prog G 19 [] (.d (.bool r)) := by
 unfold m_cocketlaw02_alive at h
 refine pf Tryd.func19 Tryd.ntmps19 ?_
 refine sg fun K k => ?_
 refine oo ?_
 refine AOps.nil (k _ ?_)
 refine sg fun K k => ?_
 obtain ⟨r1, hx_1, h⟩ := bind_some h
 refine cl (m_cocketlaw02_three_ok _ hx_1) ?_
 obtain ⟨r2, hx_2, h⟩ := bind_some h
 refine cl (m_tariff_Dead_ok 1 r1 _ hx_2) ?_
 iterate 5 refine oo ?_
 refine AOps.nil (k _ ?_)
 refine sg fun K k => ?_
 obtain ⟨r3, hx_3, h⟩ := bind_some h
 refine cl (m_cocketlaw02_three_ok _ hx_3) ?_
 obtain ⟨r4, hx_4, h⟩ := bind_some h
 refine cl (m_tariff_Gap_ok 1 r3 _ hx_4) ?_
 iterate 5 refine oo ?_
 refine AOps.nil (k _ ?_)
 refine sg fun K k => ?_
 obtain ⟨r5, hx_5, h⟩ := bind_some h
 refine cl (m_cocketlaw02_three_ok _ hx_5) ?_
 obtain ⟨r6, hx_6, h⟩ := bind_some h
 refine cl (m_tariff_Diagram_ok 1 r5 _ hx_6) ?_
 iterate 5 refine oo ?_
 refine AOps.nil (k _ ?_)
 refine sg fun K k => ?_
 iterate 3 refine oo ?_
 obtain ⟨b1, hc_7, h⟩ := bind_some h
 refine ct 4 [3, 4, 5, 6] [] (fun  t => (28, .d (.bool b1)) :: t) ?_ ?_
 ·rcases bt (decide (r2.2 = 0)) with hg_9 | hg_9
  ·rw [hg_9]
   rw [hg_9, cond_true] at hc_7
   refine oo ?_
   refine ol ?_
   obtain ⟨r7, hx_8, hc_7⟩ := bind_some hc_7
   refine cl (m_cocketlaw02_same_ok r2.1 [2] _ hx_8) ?_
   refine oo ?_
   refine AOps.nil ?_
   cases hc_7
   exact sb
  ·rw [hg_9]
   rw [hg_9, cond_false] at hc_7
   iterate 4 refine oo ?_
   refine AOps.nil ?_
   cases hc_7
   exact sb
 refine oo ?_
 refine ct 3 [3, 5, 6] [] (fun  t => (32, .d (.bool (b1 && (decide (r4.2 = 0))))) :: t) ?_ ?_
 ·rcases bt b1 with hg_11 | hg_11
  ·rw [hg_11]
   iterate 3 refine oo ?_
   refine AOps.nil ?_
   exact sb
  ·rw [hg_11]
   iterate 3 refine oo ?_
   refine AOps.nil ?_
   exact sb
 refine oo ?_
 obtain ⟨b2, hc_12, h⟩ := bind_some h
 refine ct 4 [5, 6] [] (fun  t => (37, .d (.bool b2)) :: t) ?_ ?_
 ·rcases bt (b1 && (decide (r4.2 = 0))) with hg_14 | hg_14
  ·rw [hg_14]
   rw [hg_14, cond_true] at hc_12
   refine oo ?_
   refine ol ?_
   obtain ⟨r8, hx_13, hc_12⟩ := bind_some hc_12
   refine cl (m_cocketlaw02_same_ok r4.1 [20] _ hx_13) ?_
   refine oo ?_
   refine AOps.nil ?_
   cases hc_12
   exact sb
  ·rw [hg_14]
   rw [hg_14, cond_false] at hc_12
   iterate 4 refine oo ?_
   refine AOps.nil ?_
   cases hc_12
   exact sb
 refine oo ?_
 refine ct 3 [5] [] (fun  t => (41, .d (.bool (b2 && (decide (r6.2 = 0))))) :: t) ?_ ?_
 ·rcases bt b2 with hg_16 | hg_16
  ·rw [hg_16]
   iterate 3 refine oo ?_
   refine AOps.nil ?_
   exact sb
  ·rw [hg_16]
   iterate 3 refine oo ?_
   refine AOps.nil ?_
   exact sb
 refine oo ?_
 refine ct 4 [5] [] (fun  t => (46, .d (.bool ((b2 && (decide (r6.2 = 0))) && (decide ((r6.1.length : Int) = 1))))) :: t) ?_ ?_
 ·rcases bt (b2 && (decide (r6.2 = 0))) with hg_18 | hg_18
  ·rw [hg_18]
   iterate 4 refine oo ?_
   refine AOps.nil ?_
   exact sb
  ·rw [hg_18]
   iterate 4 refine oo ?_
   refine AOps.nil ?_
   exact sb
 refine oo ?_
 obtain ⟨b3, hc_19, h⟩ := bind_some h
 refine ct 7 [] [] (fun  t => (54, .d (.bool b3)) :: t) ?_ ?_
 ·rcases bt ((b2 && (decide (r6.2 = 0))) && (decide ((r6.1.length : Int) = 1))) with hg_25 | hg_25
  ·rw [hg_25]
   rw [hg_25, cond_true] at hc_19
   obtain ⟨e1, ⟨f_20, f_21, f_22, f_23⟩, hc_19⟩ := idx_bind hc_19
   try simp only [Int.reduceToNat] at f_22 f_23
   iterate 3 refine oo ?_
   refine oo ?_ (by intro K k; simp (disch := omega) only [go_sem, f_22, ↓reduceIte]; exact k)
   refine ol ?_
   obtain ⟨r9, hx_24, hc_19⟩ := bind_some hc_19
   refine cl (m_cocketlaw02_same_ok e1.To [(-3), (-4), (-1)] _ hx_24) ?_
   refine oo ?_
   refine AOps.nil ?_
   cases hc_19
   exact sb
  ·rw [hg_25]
   rw [hg_25, cond_false] at hc_19
   iterate 7 refine oo ?_
   refine AOps.nil ?_
   cases hc_19
   exact sb
 refine oo ?_
 refine AOps.nil (k _ ?_)
 refine AWp.ret ?_
 cases h; exact rt
end Go.Pv.Tryd

namespace Go.Pv.Tryd
open Go.Proofs Go.Pv
set_option maxHeartbeats 4000000 in
theorem m_tariff_Clash_ok (k1 : Int) (t1 : (List Rule)) (i1 : Int) (j1 : Int) (r : ((List Int) × Int)) (h : m_tariff_Clash k1 t1 i1 j1 = some r) : PureFn Tryd.prog G 34 [.d (.int .i64 k1), .d (.imm 2 (lenc Rule.pd t1)), .d (.int .i64 i1), .d (.int .i64 j1)] (.tuple [.d (.imm 1 (lenc (PD.int .i64) r.1)), .d (.int .i64 r.2)]) := by
 unfold m_tariff_Clash at h
 refine pf Tryd.func34 Tryd.ntmps34 ?_
 refine sg fun K k => ?_
 iterate 2 refine oo ?_
 refine AOps.nil (k _ ?_)
 refine AWp.seq fun _ K_1 => ?_
 refine sg fun K k => ?_
 iterate 2 refine oo ?_
 refine ol ?_
 obtain ⟨r1, hx_2, h⟩ := bind_some h
 refine cl (m_tariff_checked_ok k1 [t1] _ hx_2) ?_
 refine oo ?_
 refine AOps.nil (k _ ?_)
 refine sg fun K k => ?_
 iterate 2 refine oo ?_
 refine AOps.nil (k _ ?_)
 refine cd h (fun h => ?_) (fun h => ?_)
 ·refine sg fun K k => ?_
  iterate 3 refine oo ?_
  refine AOps.nil (k _ ?_)
  refine AWp.ret ?_
  cases h; exact rt
 ·refine AWp.skip ?_
  refine K_1 _ ?_
  refine AWp.seq fun _ K_4 => ?_
  refine sg fun K k => ?_
  iterate 3 refine oo ?_
  refine ct 5 [1, 2, 3] [] (fun  t => (29, .d (.bool ((decide (i1 < 0)) || (decide ((t1.length : Int) ≤ i1))))) :: t) ?_ ?_
  ·rcases bt (decide (i1 < 0)) with hg_6 | hg_6
   ·rw [hg_6]
    iterate 5 refine oo ?_
    refine AOps.nil ?_
    exact sb
   ·rw [hg_6]
    iterate 5 refine oo ?_
    refine AOps.nil ?_
    exact sb
  refine oo ?_
  refine ct 3 [1, 2, 3] [] (fun  t => (33, .d (.bool (((decide (i1 < 0)) || (decide ((t1.length : Int) ≤ i1))) || (decide (j1 < 0))))) :: t) ?_ ?_
  ·rcases bt ((decide (i1 < 0)) || (decide ((t1.length : Int) ≤ i1))) with hg_8 | hg_8
   ·rw [hg_8]
    iterate 3 refine oo ?_
    refine AOps.nil ?_
    exact sb
   ·rw [hg_8]
    iterate 3 refine oo ?_
    refine AOps.nil ?_
    exact sb
  refine oo ?_
  refine ct 5 [1, 2, 3] [] (fun  t => (39, .d (.bool ((((decide (i1 < 0)) || (decide ((t1.length : Int) ≤ i1))) || (decide (j1 < 0))) || (decide ((t1.length : Int) ≤ j1))))) :: t) ?_ ?_
  ·rcases bt (((decide (i1 < 0)) || (decide ((t1.length : Int) ≤ i1))) || (decide (j1 < 0))) with hg_10 | hg_10
   ·rw [hg_10]
    iterate 5 refine oo ?_
    refine AOps.nil ?_
    exact sb
   ·rw [hg_10]
    iterate 5 refine oo ?_
    refine AOps.nil ?_
    exact sb
  refine AOps.nil (k _ ?_)
  refine cd h (fun h => ?_) (fun h => ?_)
  ·refine sg fun K k => ?_
   iterate 2 refine oo ?_
   refine AOps.nil (k _ ?_)
   refine AWp.ret ?_
   cases h; exact rt
  ·refine AWp.skip ?_
   refine K_4 _ ?_
   refine AWp.seq fun _ K_12 => ?_
   refine sd mo fun K k => ?_
   obtain ⟨e1, ⟨f_13, f_14, f_15, f_16⟩, h⟩ := idx_bind h
   iterate 4 refine dd ?_
   refine dd ?_ (by intro K k; simp (disch := omega) only [go_sem, f_15, ↓reduceIte]; exact k)
   obtain ⟨e2, ⟨f_17, f_18, f_19, f_20⟩, h⟩ := idx_bind h
   iterate 4 refine dd ?_
   refine dd ?_ (by intro K k; simp (disch := omega) only [go_sem, f_19, ↓reduceIte]; exact k)
   refine dd ?_
   refine DOps.nil (by kernel_rfl) (k _ ?_)
   refine cd h (fun h => ?_) (fun h => ?_)
   ·refine sg fun K k => ?_
    iterate 2 refine oo ?_
    refine AOps.nil (k _ ?_)
    refine AWp.ret ?_
    cases h; exact rt
   ·refine AWp.skip ?_
    refine K_12 _ ?_
    refine sg fun K k => ?_
    refine oo ?_
    refine AOps.nil (k _ ?_)
    refine AWp.sub (Sub.void 11 3 1 1000 (by rfl) (by rfl) (by decide) (by decide)) ?_
    simp only [eput, hput, reduceCtorEq, ↓reduceIte, Nat.reduceAdd, Nat.reduceMul, Nat.reduceLT, Nat.reduceLeDiff, Nat.reduceEqDiff, Nat.reduceBEq, Int.reduceToNat]
    refine jm (ι := (List Int)) [] [] (fun i t => (11, .slc 1000 0 i.length) :: t) (fun i t => (1000, ⟨3, 1, dl (lenc (PD.int .i64) i)⟩) :: t) .inl h ?_ ?_
    ·intro _ hj_23 h
     refine sg fun K k => ?_
     obtain ⟨e3, ⟨f_24, f_25, f_26, f_27⟩, hj_23⟩ := idx_bind hj_23
     iterate 4 refine oo ?_
     refine oo ?_ (by intro K k; simp (disch := omega) only [go_sem, f_26, ↓reduceIte]; exact k)
     iterate 2 refine oo ?_
     refine AOps.nil (k _ ?_)
     refine AWp.block ?_
     obtain ⟨x_32, hl_29, h2_30⟩ := bind_some hj_23
     refine lp (S := (Int × (List Int))) [1, 3, 55, 56] [] (fun i t => (11, .slc 1000 0 i.2.length) :: (57, .d (.int .i64 i.1)) :: t) (fun i t => (1000, ⟨3, 1, dl (lenc (PD.int .i64) i.2)⟩) :: t) hl_29 ?_ ?_; exact sb; clear hl_29
     rintro ⟨v1, L2⟩ _ hb_31; unfold m_tariff_Clash_l1 at hb_31; try dsimp only at hb_31
     try dsimp only
     refine sg fun K k => ?_
     refine oo ?_
     refine AOps.nil (k _ ?_)
     refine AWp.seq fun _ K_34 => ?_
     refine cd hb_31 (fun hb_31 => ?_) (fun hb_31 => ?_)
     ·refine AWp.skip ?_
      refine K_34 _ ?_
      refine AWp.seq fun _ K_36 => ?_
      refine AWp.block ?_
      refine sg fun K k => ?_
      obtain ⟨e4, ⟨f_37, f_38, f_39, f_40⟩, hb_31⟩ := idx_bind hb_31
      iterate 2 refine oo ?_
      refine oo ?_ (by intro K k; simp (disch := omega) only [go_sem, f_39, ↓reduceIte]; exact k)
      iterate 3 refine oo ?_
      refine AOps.nil (k _ ?_)
      refine sg fun K k => ?_
      obtain ⟨e5, ⟨f_41, f_42, f_43, f_44⟩, hb_31⟩ := idx_bind hb_31
      iterate 4 refine oo ?_
      refine oo ?_ (by intro K k; simp (disch := omega) only [go_sem, f_43, ↓reduceIte]; exact k)
      obtain ⟨e6, ⟨f_45, f_46, f_47, f_48⟩, hb_31⟩ := idx_bind hb_31
      iterate 2 refine oo ?_
      refine oo ?_ (by intro K k; simp (disch := omega) only [go_sem, f_47, ↓reduceIte]; exact k)
      iterate 2 refine oo ?_
      refine AOps.nil (k _ ?_)
      refine AWp.seq fun _ K_49 => ?_
      refine sg fun K k => ?_
      iterate 4 refine oo ?_
      refine ox ?_
      iterate 4 refine oo ?_
      refine ox ?_
      refine oo ?_
      refine AOps.nil (k _ ?_)
      refine cd hb_31 (fun hb_31 => ?_) (fun hb_31 => ?_)
      ·refine sg fun K k => ?_
       iterate 2 refine oo ?_
       refine AOps.nil (k _ ?_)
       refine AWp.ret ?_
       refine lx hb_31 fun hx => ?_; cases hx; try dsimp only at h2_30
       cases h2_30; try dsimp only at h
       cases h; exact rt
      ·refine AWp.skip ?_
       refine K_49 _ ?_
       refine AWp.reg ?_
       iterate 5 refine oo ?_
       refine ox ?_
       refine ol ?_
       obtain ⟨hg_51, hb_31⟩ := guardO_some hb_31
       iterate 2 refine oo ?_
       refine AOps.nil ?_
       refine K_36 _ ?_
       refine AWp.reg ?_
       iterate 2 refine oo ?_
       refine AOps.nil ?_
       exact ln hb_31 sb
     ·refine AWp.exit ?_
      refine lx hb_31 fun hx => ?_; cases hx; try dsimp only at h2_30
      exact ln h2_30 sb
    ·rintro L1 h; dsimp only at h ⊢
     refine sg fun K k => ?_
     iterate 3 refine oo ?_
     refine AOps.nil (k _ ?_)
     refine AWp.ret ?_
     cases h; exact rt
end Go.Pv.Tryd

namespace Go.Pv.Tryd
open Go.Proofs Go.Pv
set_option maxHeartbeats 4000000 in
theorem m_cocketref02_Clash_ok (k1 : Int) (t1 : (List Rule)) (i1 : Int) (j1 : Int) (r : ((List Int) × Int)) (h : m_cocketref02_Clash k1 t1 i1 j1 = some r) : PureFn Tryd.prog G 35 [.d (.int .i64 k1), .d (.imm 2 (lenc Rule.pd t1)), .d (.int .i64 i1), .d (.int .i64 j1)] (.tuple [.d (.imm 1 (lenc (PD.int .i64) r.1)), .d (.int .i64 r.2)]) := by
 unfold m_cocketref02_Clash at h
 refine pf Tryd.func35 Tryd.ntmps35 ?_
 refine sg fun K k => ?_
 iterate 2 refine oo ?_
 refine AOps.nil (k _ ?_)
 refine sg fun K k => ?_
 iterate 2 refine oo ?_
 obtain ⟨r1, hx_1, h⟩ := bind_some h
 refine cl (m_cocketref02_Good_ok k1 t1 _ hx_1) ?_
 refine oo ?_
 refine AOps.nil (k _ ?_)
 refine AWp.seq fun _ K_2 => ?_
 refine sg fun K k => ?_
 iterate 2 refine oo ?_
 refine AOps.nil (k _ ?_)
 refine cd h (fun h => ?_) (fun h => ?_)
 ·refine sg fun K k => ?_
  iterate 3 refine oo ?_
  refine AOps.nil (k _ ?_)
  refine AWp.ret ?_
  cases h; exact rt
 ·refine AWp.skip ?_
  refine K_2 _ ?_
  refine AWp.seq fun _ K_4 => ?_
  refine sg fun K k => ?_
  iterate 3 refine oo ?_
  refine ct 5 [0, 1, 2, 3] [] (fun  t => (27, .d (.bool ((decide (i1 < 0)) || (decide ((t1.length : Int) ≤ i1))))) :: t) ?_ ?_
  ·rcases bt (decide (i1 < 0)) with hg_6 | hg_6
   ·rw [hg_6]
    iterate 5 refine oo ?_
    refine AOps.nil ?_
    exact sb
   ·rw [hg_6]
    iterate 5 refine oo ?_
    refine AOps.nil ?_
    exact sb
  refine oo ?_
  refine ct 3 [0, 1, 2, 3] [] (fun  t => (31, .d (.bool (((decide (i1 < 0)) || (decide ((t1.length : Int) ≤ i1))) || (decide (j1 < 0))))) :: t) ?_ ?_
  ·rcases bt ((decide (i1 < 0)) || (decide ((t1.length : Int) ≤ i1))) with hg_8 | hg_8
   ·rw [hg_8]
    iterate 3 refine oo ?_
    refine AOps.nil ?_
    exact sb
   ·rw [hg_8]
    iterate 3 refine oo ?_
    refine AOps.nil ?_
    exact sb
  refine oo ?_
  refine ct 5 [0, 1, 2, 3] [] (fun  t => (37, .d (.bool ((((decide (i1 < 0)) || (decide ((t1.length : Int) ≤ i1))) || (decide (j1 < 0))) || (decide ((t1.length : Int) ≤ j1))))) :: t) ?_ ?_
  ·rcases bt (((decide (i1 < 0)) || (decide ((t1.length : Int) ≤ i1))) || (decide (j1 < 0))) with hg_10 | hg_10
   ·rw [hg_10]
    iterate 5 refine oo ?_
    refine AOps.nil ?_
    exact sb
   ·rw [hg_10]
    iterate 5 refine oo ?_
    refine AOps.nil ?_
    exact sb
  refine AOps.nil (k _ ?_)
  refine cd h (fun h => ?_) (fun h => ?_)
  ·refine sg fun K k => ?_
   iterate 2 refine oo ?_
   refine AOps.nil (k _ ?_)
   refine AWp.ret ?_
   cases h; exact rt
  ·refine AWp.skip ?_
   refine K_4 _ ?_
   refine AWp.seq fun _ K_12 => ?_
   refine sd mo fun K k => ?_
   obtain ⟨e1, ⟨f_13, f_14, f_15, f_16⟩, h⟩ := idx_bind h
   iterate 4 refine dd ?_
   refine dd ?_ (by intro K k; simp (disch := omega) only [go_sem, f_15, ↓reduceIte]; exact k)
   obtain ⟨e2, ⟨f_17, f_18, f_19, f_20⟩, h⟩ := idx_bind h
   iterate 4 refine dd ?_
   refine dd ?_ (by intro K k; simp (disch := omega) only [go_sem, f_19, ↓reduceIte]; exact k)
   refine dd ?_
   refine DOps.nil (by kernel_rfl) (k _ ?_)
   refine cd h (fun h => ?_) (fun h => ?_)
   ·refine sg fun K k => ?_
    iterate 2 refine oo ?_
    refine AOps.nil (k _ ?_)
    refine AWp.ret ?_
    cases h; exact rt
   ·refine AWp.skip ?_
    refine K_12 _ ?_
    refine sg fun K k => ?_
    refine oo ?_
    refine AOps.nil (k _ ?_)
    refine AWp.sub (Sub.void 11 3 1 1000 (by rfl) (by rfl) (by decide) (by decide)) ?_
    simp only [eput, hput, reduceCtorEq, ↓reduceIte, Nat.reduceAdd, Nat.reduceMul, Nat.reduceLT, Nat.reduceLeDiff, Nat.reduceEqDiff, Nat.reduceBEq, Int.reduceToNat]
    refine jm (ι := (List Int)) [] [] (fun i t => (11, .slc 1000 0 i.length) :: t) (fun i t => (1000, ⟨3, 1, dl (lenc (PD.int .i64) i)⟩) :: t) .inl h ?_ ?_
    ·intro _ hj_23 h
     refine sg fun K k => ?_
     refine oo ?_
     refine AOps.nil (k _ ?_)
     refine AWp.block ?_
     obtain ⟨x_28, hl_25, h2_26⟩ := bind_some hj_23
     refine lp (S := (Int × (List Int))) [0, 1, 2, 3] [] (fun i t => (11, .slc 1000 0 i.2.length) :: (12, .d (.int .i64 i.1)) :: t) (fun i t => (1000, ⟨3, 1, dl (lenc (PD.int .i64) i.2)⟩) :: t) hl_25 ?_ ?_; exact sb; clear hl_25
     rintro ⟨m1, L2⟩ _ hb_27; unfold m_cocketref02_Clash_l1 at hb_27; try dsimp only at hb_27
     try dsimp only
     refine AWp.seq fun _ K_30 => ?_
     refine sg fun K k => ?_
     iterate 3 refine oo ?_
     refine AOps.nil (k _ ?_)
     refine cd hb_27 (fun hb_27 => ?_) (fun hb_27 => ?_)
     ·refine AWp.skip ?_
      refine K_30 _ ?_
      refine AWp.seq fun _ K_32 => ?_
      refine AWp.block ?_
      refine sd mo fun K k => ?_
      obtain ⟨e3, ⟨f_33, f_34, f_35, f_36⟩, hb_27⟩ := idx_bind hb_27
      iterate 4 refine dd ?_
      refine dd ?_ (by intro K k; simp (disch := omega) only [go_sem, f_35, ↓reduceIte]; exact k)
      obtain ⟨e4, ⟨f_37, f_38, f_39, f_40⟩, hb_27⟩ := idx_bind hb_27
      iterate 3 refine dd ?_
      refine dd ?_ (by intro K k; simp (disch := omega) only [go_sem, f_39, ↓reduceIte]; exact k)
      obtain ⟨e5, ⟨f_41, f_42, f_43, f_44⟩, hb_27⟩ := idx_bind hb_27
      iterate 4 refine dd ?_
      refine dd ?_ (by intro K k; simp (disch := omega) only [go_sem, f_43, ↓reduceIte]; exact k)
      obtain ⟨e6, ⟨f_45, f_46, f_47, f_48⟩, hb_27⟩ := idx_bind hb_27
      iterate 3 refine dd ?_
      refine dd ?_ (by intro K k; simp (disch := omega) only [go_sem, f_47, ↓reduceIte]; exact k)
      refine ddx ?_
      refine dd ?_
      refine DOps.nil (by kernel_rfl) (k _ ?_)
      refine AWp.seq fun _ K_49 => ?_
      refine sd mo fun K k => ?_
      obtain ⟨e7, ⟨f_50, f_51, f_52, f_53⟩, hb_27⟩ := idx_bind hb_27
      iterate 5 refine dd ?_
      refine dd ?_ (by intro K k; simp (disch := omega) only [go_sem, f_52, ↓reduceIte]; exact k)
      obtain ⟨e8, ⟨f_54, f_55, f_56, f_57⟩, hb_27⟩ := idx_bind hb_27
      iterate 3 refine dd ?_
      refine dd ?_ (by intro K k; simp (disch := omega) only [go_sem, f_56, ↓reduceIte]; exact k)
      obtain ⟨e9, ⟨f_58, f_59, f_60, f_61⟩, hb_27⟩ := idx_bind hb_27
      iterate 4 refine dd ?_
      refine dd ?_ (by intro K k; simp (disch := omega) only [go_sem, f_60, ↓reduceIte]; exact k)
      obtain ⟨e10, ⟨f_62, f_63, f_64, f_65⟩, hb_27⟩ := idx_bind hb_27
      iterate 3 refine dd ?_
      refine dd ?_ (by intro K k; simp (disch := omega) only [go_sem, f_64, ↓reduceIte]; exact k)
      refine ddx ?_
      refine dd ?_
      refine DOps.nil (by kernel_rfl) (k _ ?_)
      refine cd hb_27 (fun hb_27 => ?_) (fun hb_27 => ?_)
      ·refine sg fun K k => ?_
       iterate 2 refine oo ?_
       refine AOps.nil (k _ ?_)
       refine AWp.ret ?_
       refine lx hb_27 fun hx => ?_; cases hx; try dsimp only at h2_26
       cases h2_26; try dsimp only at h
       cases h; exact rt
      ·refine AWp.skip ?_
       refine K_49 _ ?_
       refine AWp.reg ?_
       iterate 2 refine oo ?_
       refine ol ?_
       obtain ⟨hg_67, hb_27⟩ := guardO_some hb_27
       iterate 2 refine oo ?_
       refine AOps.nil ?_
       refine K_32 _ ?_
       refine AWp.reg ?_
       iterate 3 refine oo ?_
       refine AOps.nil ?_
       exact ln hb_27 sb
     ·refine AWp.exit ?_
      refine lx hb_27 fun hx => ?_; cases hx; try dsimp only at h2_26
      exact ln h2_26 sb
    ·rintro L1 h; dsimp only at h ⊢
     refine sg fun K k => ?_
     iterate 3 refine oo ?_
     refine AOps.nil (k _ ?_)
     refine AWp.ret ?_
     cases h; exact rt
end Go.Pv.Tryd

namespace Go.Pv.Tryd
open Go.Proofs Go.Pv
theorem m_cocketlaw02_TariffClashes_ok (k1 : Int) (t1 : (List Rule)) (i1 : Int) (j1 : Int) (r : Bool) (h : m_cocketlaw02_TariffClashes k1 t1 i1 j1 = some r) : PureFn Tryd.prog G 8 [.d (.int .i64 k1), .d (.imm 2 (lenc Rule.pd t1)), .d (.int .i64 i1), .d (.int .i64 j1)] (.d (.bool r)) := by
 unfold m_cocketlaw02_TariffClashes at h
 refine pf Tryd.func8 Tryd.ntmps8 ?_
 refine sg fun K k => ?_
 refine oo ?_
 refine AOps.nil (k _ ?_)
 refine AWp.seq fun _ K_1 => ?_
 refine sg fun K k => ?_
 iterate 2 refine oo ?_
 obtain ⟨r1, hx_2, h⟩ := bind_some h
 refine cl (m_cocketlaw02_few_ok k1 t1 _ hx_2) ?_
 refine oo ?_
 refine AOps.nil (k _ ?_)
 refine cd h (fun h => ?_) (fun h => ?_)
 ·refine sg fun K k => ?_
  obtain ⟨r2, hx_4, h⟩ := bind_some h
  refine cl (m_cocketlaw02_alive_ok _ hx_4) ?_
  refine oo ?_
  refine AOps.nil (k _ ?_)
  refine AWp.ret ?_
  cases h; exact rt
 ·refine AWp.skip ?_
  refine K_1 _ ?_
  refine sg fun K k => ?_
  iterate 4 refine oo ?_
  obtain ⟨r3, hx_5, h⟩ := bind_some h
  refine cl (m_tariff_Clash_ok k1 t1 i1 j1 _ hx_5) ?_
  iterate 5 refine oo ?_
  refine AOps.nil (k _ ?_)
  refine sg fun K k => ?_
  iterate 4 refine oo ?_
  obtain ⟨r4, hx_6, h⟩ := bind_some h
  refine cl (m_cocketref02_Clash_ok k1 t1 i1 j1 _ hx_6) ?_
  iterate 5 refine oo ?_
  refine AOps.nil (k _ ?_)
  refine sg fun K k => ?_
  iterate 2 refine oo ?_
  obtain ⟨r5, hx_7, h⟩ := bind_some h
  refine cl (m_cocketlaw02_same_ok r3.1 r4.1 _ hx_7) ?_
  refine oo ?_
  refine ct 4 [] [] (fun  t => (41, .d (.bool (r5 && (decide (r3.2 = r4.2))))) :: t) ?_ ?_
  ·rcases bt r5 with hg_9 | hg_9
   ·rw [hg_9]
    iterate 4 refine oo ?_
    refine AOps.nil ?_
    exact sb
   ·rw [hg_9]
    iterate 4 refine oo ?_
    refine AOps.nil ?_
    exact sb
  refine oo ?_
  obtain ⟨b1, hc_10, h⟩ := bind_some h
  refine ct 2 [] [] (fun  t => (44, .d (.bool b1)) :: t) ?_ ?_
  ·rcases bt (r5 && (decide (r3.2 = r4.2))) with hg_12 | hg_12
   ·rw [hg_12]
    rw [hg_12, cond_true] at hc_10
    obtain ⟨r6, hx_11, hc_10⟩ := bind_some hc_10
    refine cl (m_cocketlaw02_alive_ok _ hx_11) ?_
    refine oo ?_
    refine AOps.nil ?_
    cases hc_10
    exact sb
   ·rw [hg_12]
    rw [hg_12, cond_false] at hc_10
    iterate 2 refine oo ?_
    refine AOps.nil ?_
    cases hc_10
    exact sb
  refine oo ?_
  refine AOps.nil (k _ ?_)
  refine AWp.ret ?_
  cases h; exact rt
end Go.Pv.Tryd

namespace Go.Pv.Tryd
open Go Go.Proofs Go.Pv Go.ChangeShapes Go.WideShapes Go.ChangeAt Go.RowKit Go.Proofs.YtnfnkllhjaemnaaDoor
set_option maxRecDepth 100000 in
theorem clashes_lifted (os : Os) (started : os.Started) (H : Type) (enc : TypeId × Value → H) :
    ReturnsInHanded {} Tryd.checked os 8 .any (fun w args => (Rows.tariffClashesSpec.pre enc Tryd.prog Tryd.f8 [] false w args ∧ laidMetH Tryd.prog laid1 w) ∧ sizedMet enc Tryd.prog Tryd.f8 (OpenSpec.ofChange Rows.tariffClashesSpec) false w args)
      (Rows.tariffClashesSpec.post enc Tryd.prog Tryd.f8 false true false false) := by
  refine returnsInHanded_of_change_and (C := Tryd.checked) (X := fun w _ => laidMetH Tryd.prog laid1 w) (fun _ _ _ hh h => h.of_heap hh) own started (by kernel_rfl) Tryd.func8
    (ChangeSpec.witness_shaped (enc := enc) (C := Tryd.checked) (os := os) (X := fun w _ => laidMetH Tryd.prog laid1 w) false (World.doorLaid Tryd.prog 400 os) #[.int .i64 0, .slice none 0 0, .int .i64 0, .int .i64 0] 8 rfl (World.shaped_of_RefB (by kernel_rfl) (by kernel_rfl)) (by kernel_rfl) (by kernel_rfl) (by kernel_rfl) (door_met os _)) ?_
  intro W base args ds gs before hval0 hW _ _ hL _
  have hval : ∀ (j : Nat) t v, Tryd.f8.params[j]? = some t → args[j]? = some v → Value.okWide Tryd.prog W .any base t v := hval0
  have hW' := hW
  obtain ⟨p, q, hA0, hV, rfl, hfz, hnd⟩ := hW
  have hA : DataW.TrodAll enc Tryd.prog W 0 (fun _ => true) true Tryd.f8.params.toList args.toList ds p := hA0
  obtain ⟨rfl, rfl⟩ := trodVars_none hV
  rw [Tryd.params8] at hA hval
  obtain ⟨v0, vs0, d0, ds0, p0, q0, ha, rfl, rfl, t0, hA⟩ := trodAll_cons hA
  obtain ⟨v1, vs1, d1, ds1, p1, q1, rfl, rfl, rfl, t1, hA⟩ := trodAll_cons hA
  obtain ⟨v2, vs2, d2, ds2, p2, q2, rfl, rfl, rfl, t2, hA⟩ := trodAll_cons hA
  obtain ⟨v3, vs3, d3, ds3, p3, q3, rfl, rfl, rfl, t3, hA⟩ := trodAll_cons hA
  obtain ⟨rfl, rfl, rfl⟩ := trodAll_nil hA
  have hargs : args = #[v0, v1, v2, v3] := Array.toList_inj.1 ha
  subst hargs
  obtain ⟨x0, r0⟩ := rep_arg_int Tryd.underlying3 (hval 0 3 v0 rfl rfl)
  obtain ⟨x1, r1⟩ := rep_arg_slice Tryd.underlying22 opens_Rule (by decide) (hval 1 22 v1 rfl rfl) t1
  obtain ⟨x2, r2⟩ := rep_arg_int Tryd.underlying3 (hval 2 3 v2 rfl rfl)
  obtain ⟨x3, r3⟩ := rep_arg_int Tryd.underlying3 (hval 3 3 v3 rfl rfl)
  have hw := calls_of_pure (args := [.int .i64 x0, .imm 2 (lenc Rule.pd x1), .int .i64 x2, .int .i64 x3]) (vs := [v0, v1, v2, v3]) (m_cocketlaw02_TariffClashes_ok x0 x1 x2 x3 true (TariffClashes_law x0 x1 x2 x3)) rfl (fun i hi => by
    match i, hi with
    | 0, _ => exact r0
    | 1, _ => exact r1
    | 2, _ => exact r2
    | 3, _ => exact r3) (glob_of_laid hL)
  refine hw.mono fun e W' ⟨he, hs⟩ => ?_
  subst he
  exact ⟨_, rfl, law_post rfl hW' hs rfl (t := 4) (by rfl) Tryd.underlying4 laidOut (by kernel_rfl)⟩
theorem clashes_said : Rows.TariffClashesSaid :=
  OpenClaim.holds_of_wide 8 Tryd.f8 rfl rfl rfl rfl rfl rfl rfl ⟨rfl, rfl, rfl, rfl, rfl⟩ rfl rfl rfl rfl rfl (by kernel_rfl) Tryd.func8 (by kernel_rfl)
    (of_decide_eq_true (by kernel_rfl)) (by unfold Func.isWrapper; first | (rw [if_pos (by decide +kernel)]; kernel_rfl) | (rw [if_neg (by decide +kernel)]; exact ⟨rfl, rfl⟩))
    (fun os started H enc _ => clashes_lifted os started H enc)
theorem clashes_card : Rows.TariffClashesCardSaid :=
  Claim7.holds_tied_plain_at .later [] [.data, .data, .data] true Rows.tariffClashesCard.stood.harness false
    clashes_said (fun _ h => by cases h) (by kernel_rfl) (fun _ h => by cases h) tariffClashes_row_tie rfl ⟨rfl, rfl⟩ (by kernel_rfl) rfl
    (fun f fn hf hfn => by
      obtain rfl : f = 8 := Option.some.inj ((show Tryd.prog.funcNamed Rows.tariffClashesRow.func = some 8 by kernel_rfl).symm.trans hf) |>.symm
      obtain rfl : fn = Tryd.f8 := (Option.some.inj (Tryd.func8.symm.trans hfn)).symm
      exact ⟨by kernel_rfl, fun j t ht => by
        rw [Tryd.params8] at ht
        have hm : t ∈ [3, 22, 3, 3] := by simpa using Array.mem_of_getElem? ht
        have hall : ([3, 22, 3, 3].all fun u => !Tryd.prog.wantsStandIn u) = true := by kernel_rfl
        exact (show Tryd.prog.wantsStandIn t = false by simpa using List.all_eq_true.1 hall t hm)⟩)
    (by kernel_rfl)
end Go.Pv.Tryd

namespace Go.Proofs.YtnfnkllhjaemnaaDoor

theorem clashes_card : Rows.TariffClashesCardSaid := Go.Pv.Tryd.clashes_card

#print axioms clashes_card

end Go.Proofs.YtnfnkllhjaemnaaDoor
