/- TariffFollows answers true for every input, as its tied card says: under the conditions of the card (Rows, Cards, Tie), no more. Part 7 of 7: by one AI agent and its programs; no person has read it. -/
import Derived.Test.YtnfnkllhjaemnaaDoorTariffFollowsA
import Derived.Test.YtnfnkllhjaemnaaDoorTariffFollowsB
import Derived.Test.YtnfnkllhjaemnaaDoorTariffFollowsC
import Derived.Test.YtnfnkllhjaemnaaDoorTariffFollowsD
import Derived.Test.YtnfnkllhjaemnaaDoorTariffFollowsE
import Derived.Test.YtnfnkllhjaemnaaDoorTariffFollowsF
import Derived.Test.YtnfnkllhjaemnaaDoorCards
import Derived.Test.YtnfnkllhjaemnaaDoorTie
import Derived.SevenTiedAt
set_option linter.unusedSimpArgs false
set_option linter.unusedVariables false
set_option linter.all false

namespace Go.Pv.Tryd
open Go.Proofs Go.Pv
theorem m_slices_IndexFunc_70_f71_ok (s1 : (List Int)) (f1 : (List Int)) (f2 : Int) (f3 : (List Int)) (f4 : (List Int)) (r : Int) (h : m_slices_IndexFunc_70_f71 s1 f1 f2 f3 f4 = some r) : PureFn Tryd.prog G 70 [.d (.imm 1 (lenc (PD.int .i64) s1)), .func (.func 71) [.dptr 1 [(.imm 1 (lenc (PD.int .i64) f1))] 0 0, .dptr 3 [.agg [(.int .i64 f2), (.imm 1 (lenc (PD.int .i64) f3)), (.imm 1 (lenc (PD.int .i64) f4))]] 0 0]] (.d (.int .i64 r)) := by
 unfold m_slices_IndexFunc_70_f71 at h
 refine pf Tryd.func70 Tryd.ntmps70 ?_
 refine sg fun K k => ?_
 refine oo ?_
 refine AOps.nil (k _ ?_)
 refine jm (ι := Unit) [] [] (fun i t => t) (fun i t => t) .inl h ?_ ?_
 ·intro _ hj_2 h
  refine sg fun K k => ?_
  iterate 3 refine oo ?_
  refine AOps.nil (k _ ?_)
  refine AWp.block ?_
  obtain ⟨x_7, hl_4, h2_5⟩ := bind_some hj_2
  refine lp (S := Int) [0, 1, 7] [] (fun i t => (8, .d (.int .i64 i)) :: t) (fun i t => t) hl_4 ?_ ?_; exact sb; clear hl_4
  rintro v1 _ hb_6; unfold m_slices_IndexFunc_70_f71_l1 at hb_6; try dsimp only at hb_6
  try dsimp only
  refine sg fun K k => ?_
  refine oo ?_
  refine AOps.nil (k _ ?_)
  refine AWp.seq fun _ K_9 => ?_
  refine cd hb_6 (fun hb_6 => ?_) (fun hb_6 => ?_)
  ·refine AWp.skip ?_
   refine K_9 _ ?_
   refine AWp.seq fun _ K_11 => ?_
   refine AWp.block ?_
   refine sg fun K k => ?_
   iterate 2 refine oo ?_
   refine AOps.nil (k _ ?_)
   refine sg fun K k => ?_
   obtain ⟨e1, ⟨f_12, f_13, f_14, f_15⟩, hb_6⟩ := idx_bind hb_6
   iterate 4 refine oo ?_
   refine oo ?_ (by intro K k; simp (disch := omega) only [go_sem, f_14, ↓reduceIte]; exact k)
   obtain ⟨r1, hx_16, hb_6⟩ := bind_some hb_6
   refine clC (m_tariff_Follow_2_c_ok e1 f1 f2 f3 f4 _ hx_16) ?_
   refine AOps.nil (k _ ?_)
   refine cd hb_6 (fun hb_6 => ?_) (fun hb_6 => ?_)
   ·refine sg fun K k => ?_
    iterate 2 refine oo ?_
    refine AOps.nil (k _ ?_)
    refine AWp.ret ?_
    refine lx hb_6 fun hx => ?_; cases hx; try dsimp only at h2_5
    cases h2_5; try dsimp only at h
    cases h; exact rt
   ·refine AWp.skip ?_
    refine K_11 _ ?_
    refine AWp.reg ?_
    iterate 2 refine oo ?_
    refine AOps.nil ?_
    exact ln hb_6 sb
  ·refine AWp.exit ?_
   refine lx hb_6 fun hx => ?_; cases hx; try dsimp only at h2_5
   exact ln h2_5 sb
 ·rintro _ h; dsimp only at h ⊢
  refine sg fun K k => ?_
  refine oo ?_
  refine AOps.nil (k _ ?_)
  refine AWp.ret ?_
  cases h; exact rt
end Go.Pv.Tryd

namespace Go.Pv.Tryd
open Go.Proofs Go.Pv
set_option maxHeartbeats 4000000 in
theorem m_tariff_Follow_ok (k1 : Int) (d1 : (List Node)) (l1 : (List Int)) (r : (Int × Int)) (h : m_tariff_Follow k1 d1 l1 = some r) : PureFn Tryd.prog G 38 [.d (.int .i64 k1), .d (.imm 3 (lenc Node.pd d1)), .d (.imm 1 (lenc (PD.int .i64) l1))] (.tuple [.d (.int .i64 r.1), .d (.int .i64 r.2)]) := by
 unfold m_tariff_Follow at h
 refine pf Tryd.func38 Tryd.ntmps38 ?_
 refine sg fun K k => ?_
 iterate 5 refine oo ?_
 refine AOps.nil (k _ ?_)
 refine AWp.seq fun _ K_1 => ?_
 refine sg fun K k => ?_
 refine oo ?_
 obtain ⟨r1, hx_2, h⟩ := bind_some h
 refine cl (m_tariff_marks_ok k1 _ hx_2) ?_
 iterate 2 refine oo ?_
 obtain ⟨b1, hc_3, h⟩ := bind_some h
 refine ct 5 [3, 4, 5] [1000, 1001, 1002] (fun  t => (18, .d (.bool b1)) :: t) ?_ ?_
 ·rcases bt (!r1) with hg_5 | hg_5
  ·rw [hg_5]
   rw [hg_5, cond_true] at hc_3
   iterate 5 refine oo ?_
   refine AOps.nil ?_
   cases hc_3
   exact sb
  ·rw [hg_5]
   rw [hg_5, cond_false] at hc_3
   iterate 2 refine oo ?_
   obtain ⟨r2, hx_4, hc_3⟩ := bind_some hc_3
   refine cl (m_tariff_thing_ok k1 l1 _ hx_4) ?_
   iterate 2 refine oo ?_
   refine AOps.nil ?_
   cases hc_3
   exact sb
 refine oo ?_
 refine ct 4 [3, 4, 5] [1000, 1001, 1002] (fun  t => (23, .d (.bool (b1 || (decide ((d1.length : Int) = 0))))) :: t) ?_ ?_
 ·rcases bt b1 with hg_7 | hg_7
  ·rw [hg_7]
   iterate 4 refine oo ?_
   refine AOps.nil ?_
   exact sb
  ·rw [hg_7]
   iterate 4 refine oo ?_
   refine AOps.nil ?_
   exact sb
 refine oo ?_
 refine ct 4 [3, 4, 5] [1000, 1001, 1002] (fun  t => (28, .d (.bool ((b1 || (decide ((d1.length : Int) = 0))) || (decide (200000 < (d1.length : Int)))))) :: t) ?_ ?_
 ·rcases bt (b1 || (decide ((d1.length : Int) = 0))) with hg_9 | hg_9
  ·rw [hg_9]
   iterate 4 refine oo ?_
   refine AOps.nil ?_
   exact sb
  ·rw [hg_9]
   iterate 4 refine oo ?_
   refine AOps.nil ?_
   exact sb
 refine oo ?_
 obtain ⟨b2, hc_10, h⟩ := bind_some h
 refine ct 4 [5] [1002] (fun  t => (4, .dptr 1 [(.imm 3 (lenc Node.pd d1))] 0 0) :: (33, .d (.bool b2)) :: t) ?_ ?_
 ·rcases bt ((b1 || (decide ((d1.length : Int) = 0))) || (decide (200000 < (d1.length : Int)))) with hg_12 | hg_12
  ·rw [hg_12]
   rw [hg_12, cond_true] at hc_10
   iterate 4 refine oo ?_
   refine AOps.nil ?_
   cases hc_10
   exact sc
  ·rw [hg_12]
   rw [hg_12, cond_false] at hc_10
   iterate 2 refine oo ?_
   refine AOps.sub (τ := ⟨[(4, .dptr 1 [(.imm 3 (lenc Node.pd d1))] 0 0), (5, .ptr 1002 0 0), (29, .d (.bool false)), (30, .d (.imm 3 (lenc Node.pd d1))), (31, .func (.func 68) [.dptr 1 [(.int .i64 k1)] 0 0, .dptr 1 [(.imm 3 (lenc Node.pd d1))] 0 0])], [(1002, ⟨26, 1, [.d (.imm 1 (lenc (PD.int .i64) l1))]⟩)], [], none⟩) sc ?_
   obtain ⟨r3, hx_11, hc_10⟩ := bind_some hc_10
   refine clC (m_slices_ContainsFunc_67_f68_ok d1 k1 d1 _ hx_11) ?_
   refine oo ?_
   refine AOps.nil ?_
   cases hc_10
   exact sb
 refine AOps.nil (k _ ?_)
 refine cd h (fun h => ?_) (fun h => ?_)
 ·refine sg fun K k => ?_
  iterate 2 refine oo ?_
  refine AOps.nil (k _ ?_)
  refine AWp.ret ?_
  cases h; exact rt
 ·refine AWp.skip ?_
  refine K_1 _ ?_
  refine sg fun K k => ?_
  refine oo ?_
  refine AOps.nil (k _ ?_)
  refine jn (α := Int) [] [] (fun i t => (8, .d (.int .i64 i)) :: t) (fun i t => t) h ?_ ?_
  ·intro _ hj_15
   refine AWp.block ?_
   obtain ⟨x_20, hl_17, h2_18⟩ := bind_some hj_15
   refine lp (S := Int) [4] [] (fun i t => (5, .dptr 1 [(.imm 1 (lenc (PD.int .i64) l1))] 0 0) :: (8, .d (.int .i64 i)) :: t) (fun i t => t) hl_17 ?_ ?_; exact sc; clear hl_17
   rintro at2 _ hb_19; unfold m_tariff_Follow_l1 at hb_19; try dsimp only at hb_19
   try dsimp only
   refine AWp.seq fun _ K_22 => ?_
   refine sg fun K k => ?_
   iterate 2 refine oo ?_
   refine AOps.nil (k _ ?_)
   refine cd hb_19 (fun hb_19 => ?_) (fun hb_19 => ?_)
   ·refine AWp.skip ?_
    refine K_22 _ ?_
    refine AWp.block ?_
    refine sg fun K k => ?_
    obtain ⟨e1, ⟨f_24, f_25, f_26, f_27⟩, hb_19⟩ := idx_bind hb_19
    iterate 3 refine oo ?_
    refine oo ?_ (by intro K k; simp (disch := omega) only [go_sem, f_26, ↓reduceIte]; exact k)
    iterate 2 refine oo ?_
    refine AOps.nil (k _ ?_)
    refine AWp.sub (τ := ⟨[(4, .dptr 1 [(.imm 3 (lenc Node.pd d1))] 0 0), (5, .dptr 1 [(.imm 1 (lenc (PD.int .i64) l1))] 0 0), (8, .d (.int .i64 at2)), (9, .dptr 3 [.agg [(.int .i64 e1.Mark), (.imm 1 (lenc (PD.int .i64) e1.Cuts)), (.imm 1 (lenc (PD.int .i64) e1.To))]] 0 0)], [], [], none⟩) sc ?_
    refine AWp.draw mo [] trivial ?_
    iterate 5 refine dd ?_
    obtain ⟨r4, hx_28, hb_19⟩ := bind_some hb_19
    refine dclC (m_slices_IndexFunc_70_f71_ok e1.Cuts l1 e1.Mark e1.Cuts e1.To _ hx_28) ?_
    obtain ⟨e2, ⟨f_29, f_30, f_31, f_32⟩, hb_19⟩ := idx_bind hb_19
    refine dd ?_
    refine dd ?_ (by intro K k; simp (disch := omega) only [go_sem, f_31, ↓reduceIte]; exact k)
    refine dd ?_
    refine DOps.nil (by kernel_rfl) ?_
    exact ln hb_19 sb
   ·refine AWp.exit ?_
    refine lx hb_19 fun hx => ?_; cases hx; try dsimp only at h2_18
    cases h2_18; exact sb
  ·rintro at1 h; dsimp only at h ⊢
   refine AWp.seq fun _ K_33 => ?_
   refine sg fun K k => ?_
   iterate 2 refine oo ?_
   refine AOps.nil (k _ ?_)
   refine cd h (fun h => ?_) (fun h => ?_)
   ·refine sg fun K k => ?_
    iterate 2 refine oo ?_
    refine AOps.nil (k _ ?_)
    refine AWp.ret ?_
    cases h; exact rt
   ·refine AWp.skip ?_
    refine K_33 _ ?_
    refine sg fun K k => ?_
    iterate 4 refine oo ?_
    refine AOps.nil (k _ ?_)
    refine AWp.ret ?_
    cases h; exact rt
end Go.Pv.Tryd

namespace Go.Pv.Tryd
open Go.Proofs Go.Pv
theorem m_cocketref02_Thing_ok (k1 : Int) (x1 : (List Int)) (r : Bool) (h : m_cocketref02_Thing k1 x1 = some r) : PureFn Tryd.prog G 43 [.d (.int .i64 k1), .d (.imm 1 (lenc (PD.int .i64) x1))] (.d (.bool r)) := by
 unfold m_cocketref02_Thing at h
 refine pf Tryd.func43 Tryd.ntmps43 ?_
 refine sg fun K k => ?_
 refine oo ?_
 refine AOps.nil (k _ ?_)
 refine AWp.seq fun _ K_1 => ?_
 refine sg fun K k => ?_
 iterate 4 refine oo ?_
 refine AOps.nil (k _ ?_)
 refine cd h (fun h => ?_) (fun h => ?_)
 ·refine sg fun K k => ?_
  refine oo ?_
  refine AOps.nil (k _ ?_)
  refine AWp.ret ?_
  cases h; exact rt
 ·refine AWp.skip ?_
  refine K_1 _ ?_
  refine jm (ι := Unit) [] [] (fun i t => t) (fun i t => t) .inl h ?_ ?_
  ·intro _ hj_4 h
   refine sg fun K k => ?_
   refine oo ?_
   refine AOps.nil (k _ ?_)
   refine AWp.block ?_
   obtain ⟨x_9, hl_6, h2_7⟩ := bind_some hj_4
   refine lp (S := Int) [0, 1] [] (fun i t => (5, .d (.int .i64 i)) :: t) (fun i t => t) hl_6 ?_ ?_; exact sb; clear hl_6
   rintro i1 _ hb_8; unfold m_cocketref02_Thing_l1 at hb_8; try dsimp only at hb_8
   try dsimp only
   refine AWp.seq fun _ K_11 => ?_
   refine sg fun K k => ?_
   iterate 3 refine oo ?_
   refine AOps.nil (k _ ?_)
   refine cd hb_8 (fun hb_8 => ?_) (fun hb_8 => ?_)
   ·refine AWp.skip ?_
    refine K_11 _ ?_
    refine AWp.seq fun _ K_13 => ?_
    refine AWp.block ?_
    refine sg fun K k => ?_
    obtain ⟨e1, ⟨f_14, f_15, f_16, f_17⟩, hb_8⟩ := idx_bind hb_8
    iterate 3 refine oo ?_
    refine oo ?_ (by intro K k; simp (disch := omega) only [go_sem, f_16, ↓reduceIte]; exact k)
    iterate 2 refine oo ?_
    refine ct 6 [0, 1, 5] [] (fun  t => (26, .d (.bool ((decide (e1 < 0)) || (decide (999 < e1))))) :: t) ?_ ?_
    ·rcases bt (decide (e1 < 0)) with hg_19 | hg_19
     ·rw [hg_19]
      iterate 6 refine oo ?_
      refine AOps.nil ?_
      exact sb
     ·rw [hg_19]
      iterate 3 refine oo ?_
      refine oo ?_ (by intro K k; simp (disch := omega) only [go_sem, f_16, ↓reduceIte]; exact k)
      iterate 2 refine oo ?_
      refine AOps.nil ?_
      exact sb
    refine AOps.nil (k _ ?_)
    refine cd hb_8 (fun hb_8 => ?_) (fun hb_8 => ?_)
    ·refine sg fun K k => ?_
     refine oo ?_
     refine AOps.nil (k _ ?_)
     refine AWp.ret ?_
     refine lx hb_8 fun hx => ?_; cases hx; try dsimp only at h2_7
     cases h2_7; try dsimp only at h
     cases h; exact rt
    ·refine AWp.skip ?_
     refine K_13 _ ?_
     refine AWp.reg ?_
     iterate 3 refine oo ?_
     refine AOps.nil ?_
     exact ln hb_8 sb
   ·refine AWp.exit ?_
    refine lx hb_8 fun hx => ?_; cases hx; try dsimp only at h2_7
    exact ln h2_7 sb
  ·rintro _ h; dsimp only at h ⊢
   refine sg fun K k => ?_
   refine oo ?_
   refine AOps.nil (k _ ?_)
   refine AWp.ret ?_
   cases h; exact rt
end Go.Pv.Tryd

namespace Go.Pv.Tryd
open Go.Proofs Go.Pv
set_option maxHeartbeats 4000000 in
theorem m_cocketref02_IsDiagram_ok (k1 : Int) (d1 : (List Node)) (r : Bool) (h : m_cocketref02_IsDiagram k1 d1 = some r) : PureFn Tryd.prog G 72 [.d (.int .i64 k1), .d (.imm 3 (lenc Node.pd d1))] (.d (.bool r)) := by
 unfold m_cocketref02_IsDiagram at h
 refine pf Tryd.func72 Tryd.ntmps72 ?_
 refine sg fun K k => ?_
 refine oo ?_
 refine AOps.nil (k _ ?_)
 refine AWp.seq fun _ K_1 => ?_
 refine sg fun K k => ?_
 iterate 4 refine oo ?_
 refine ct 4 [0, 1] [] (fun  t => (15, .d (.bool ((decide ((d1.length : Int) < 1)) || (decide (200000 < (d1.length : Int)))))) :: t) ?_ ?_
 ·rcases bt (decide ((d1.length : Int) < 1)) with hg_3 | hg_3
  ·rw [hg_3]
   iterate 4 refine oo ?_
   refine AOps.nil ?_
   exact sb
  ·rw [hg_3]
   iterate 4 refine oo ?_
   refine AOps.nil ?_
   exact sb
 refine AOps.nil (k _ ?_)
 refine cd h (fun h => ?_) (fun h => ?_)
 ·refine sg fun K k => ?_
  refine oo ?_
  refine AOps.nil (k _ ?_)
  refine AWp.ret ?_
  cases h; exact rt
 ·refine AWp.skip ?_
  refine K_1 _ ?_
  refine jm (ι := Unit) [] [] (fun i t => t) (fun i t => t) .inl h ?_ ?_
  ·intro _ hj_6 h
   refine sg fun K k => ?_
   refine oo ?_
   refine AOps.nil (k _ ?_)
   refine AWp.block ?_
   obtain ⟨x_11, hl_8, h2_9⟩ := bind_some hj_6
   refine lp (S := Int) [0, 1] [] (fun i t => (5, .d (.int .i64 i)) :: t) (fun i t => t) hl_8 ?_ ?_; exact sb; clear hl_8
   rintro i1 _ hb_10; unfold m_cocketref02_IsDiagram_l1 at hb_10; try dsimp only at hb_10
   try dsimp only
   refine AWp.seq fun _ K_13 => ?_
   refine sg fun K k => ?_
   iterate 4 refine oo ?_
   refine AOps.nil (k _ ?_)
   refine cd hb_10 (fun hb_10 => ?_) (fun hb_10 => ?_)
   ·refine AWp.skip ?_
    refine K_13 _ ?_
    refine jm (ι := Unit) [0, 1, 5] [] (fun i t => t) (fun i t => t) .inl hb_10 ?_ ?_
    ·intro _ hj_16 hb_10
     refine AWp.block ?_
     refine sg fun K k => ?_
     obtain ⟨e1, ⟨f_17, f_18, f_19, f_20⟩, hj_16⟩ := idx_bind hj_16
     iterate 3 refine oo ?_
     refine oo ?_ (by intro K k; simp (disch := omega) only [go_sem, f_19, ↓reduceIte]; exact k)
     iterate 2 refine oo ?_
     refine AOps.nil (k _ ?_)
     refine AWp.seq fun _ K_21 => ?_
     refine sg fun K k => ?_
     iterate 4 refine oo ?_
     refine ct 5 [0, 1, 5, 6] [1000] (fun  t => (34, .d (.bool ((decide (e1.Mark < 0)) || (decide (k1 ≤ e1.Mark))))) :: t) ?_ ?_
     ·rcases bt (decide (e1.Mark < 0)) with hg_23 | hg_23
      ·rw [hg_23]
       iterate 5 refine oo ?_
       refine AOps.nil ?_
       exact sb
      ·rw [hg_23]
       iterate 5 refine oo ?_
       refine AOps.nil ?_
       exact sb
     refine oo ?_
     refine ct 5 [0, 1, 5, 6] [1000] (fun  t => (40, .d (.bool (((decide (e1.Mark < 0)) || (decide (k1 ≤ e1.Mark))) || (decide ((e1.Cuts.length : Int) < 1))))) :: t) ?_ ?_
     ·rcases bt ((decide (e1.Mark < 0)) || (decide (k1 ≤ e1.Mark))) with hg_25 | hg_25
      ·rw [hg_25]
       iterate 5 refine oo ?_
       refine AOps.nil ?_
       exact sb
      ·rw [hg_25]
       iterate 5 refine oo ?_
       refine AOps.nil ?_
       exact sb
     refine oo ?_
     refine ct 8 [0, 1, 5, 6] [1000] (fun  t => (49, .d (.bool ((((decide (e1.Mark < 0)) || (decide (k1 ≤ e1.Mark))) || (decide ((e1.Cuts.length : Int) < 1))) || (decide (¬(e1.To.length : Int) = (e1.Cuts.length : Int)))))) :: t) ?_ ?_
     ·rcases bt (((decide (e1.Mark < 0)) || (decide (k1 ≤ e1.Mark))) || (decide ((e1.Cuts.length : Int) < 1))) with hg_27 | hg_27
      ·rw [hg_27]
       iterate 8 refine oo ?_
       refine AOps.nil ?_
       exact sb
      ·rw [hg_27]
       iterate 8 refine oo ?_
       refine AOps.nil ?_
       exact sb
     refine oo ?_
     obtain ⟨b1, hc_28, hj_16⟩ := bind_some hj_16
     refine ct 6 [0, 1, 5, 6] [1000] (fun  t => (56, .d (.bool b1)) :: t) ?_ ?_
     ·rcases bt ((((decide (e1.Mark < 0)) || (decide (k1 ≤ e1.Mark))) || (decide ((e1.Cuts.length : Int) < 1))) || (decide (¬(e1.To.length : Int) = (e1.Cuts.length : Int)))) with hg_33 | hg_33
      ·rw [hg_33]
       rw [hg_33, cond_true] at hc_28
       iterate 6 refine oo ?_
       refine AOps.nil ?_
       cases hc_28
       exact sb
      ·rw [hg_33]
       rw [hg_33, cond_false] at hc_28
       obtain ⟨e2, ⟨f_29, f_30, f_31, f_32⟩, hc_28⟩ := idx_bind hc_28
       try simp only [Int.reduceToNat] at f_31 f_32
       iterate 3 refine oo ?_
       refine oo ?_ (by intro K k; simp (disch := omega) only [go_sem, f_31, ↓reduceIte]; exact k)
       iterate 2 refine oo ?_
       refine AOps.nil ?_
       cases hc_28
       exact sb
     refine oo ?_
     obtain ⟨b2, hc_34, hj_16⟩ := bind_some hj_16
     refine ct 10 [0, 1, 5, 6] [1000] (fun  t => (67, .d (.bool b2)) :: t) ?_ ?_
     ·rcases bt b1 with hg_39 | hg_39
      ·rw [hg_39]
       rw [hg_39, cond_true] at hc_34
       iterate 10 refine oo ?_
       refine AOps.nil ?_
       cases hc_34
       exact sb
      ·rw [hg_39]
       rw [hg_39, cond_false] at hc_34
       obtain ⟨e3, ⟨f_35, f_36, f_37, f_38⟩, hc_34⟩ := idx_bind hc_34
       try simp only [Int.toNat_natCast] at f_37 f_38
       iterate 7 refine oo ?_
       refine oo ?_ (by intro K k; simp (disch := omega) only [go_sem, f_37, Int.toNat_natCast, ↓reduceIte]; exact k)
       iterate 2 refine oo ?_
       refine AOps.nil ?_
       cases hc_34
       exact sb
     refine AOps.nil (k _ ?_)
     refine cd hj_16 (fun hj_16 => ?_) (fun hj_16 => ?_)
     ·refine sg fun K k => ?_
      refine oo ?_
      refine AOps.nil (k _ ?_)
      refine AWp.ret ?_
      cases hj_16; try dsimp only at hb_10
      refine lx hb_10 fun hx => ?_; cases hx; try dsimp only at h2_9
      cases h2_9; try dsimp only at h
      cases h; exact rt
     ·refine AWp.skip ?_
      refine K_21 _ ?_
      refine sg fun K k => ?_
      refine oo ?_
      refine AOps.nil (k _ ?_)
      refine AWp.block ?_
      obtain ⟨x_45, hl_42, h2_43⟩ := bind_some hj_16
      refine lp (S := Int) [0, 1, 5, 6] [1000] (fun i t => (7, .d (.int .i64 i)) :: t) (fun i t => t) hl_42 ?_ ?_; exact sb; clear hl_42
      rintro j1 _ hb_44; unfold m_cocketref02_IsDiagram_l2 at hb_44; try dsimp only at hb_44
      try dsimp only
      refine AWp.seq fun _ K_47 => ?_
      refine sg fun K k => ?_
      iterate 5 refine oo ?_
      refine AOps.nil (k _ ?_)
      refine cd hb_44 (fun hb_44 => ?_) (fun hb_44 => ?_)
      ·refine AWp.skip ?_
       refine K_47 _ ?_
       refine AWp.seq fun _ K_49 => ?_
       refine AWp.block ?_
       refine AWp.seq fun _ K_50 => ?_
       refine sd mo fun K k => ?_
       iterate 3 refine dd ?_
       rcases bt (decide (0 < j1)) with hg_51 | hg_51
       ·rw [hg_51]
        rw [hg_51, cond_true] at hb_44
        obtain ⟨e4, ⟨f_52, f_53, f_54, f_55⟩, hb_44⟩ := idx_bind hb_44
        iterate 4 refine dd ?_
        refine dd ?_ (by intro K k; simp (disch := omega) only [go_sem, f_54, ↓reduceIte]; exact k)
        obtain ⟨e5, ⟨f_56, f_57, f_58, f_59⟩, hb_44⟩ := idx_bind hb_44
        iterate 5 refine dd ?_
        refine dd ?_ (by intro K k; simp (disch := omega) only [go_sem, f_58, ↓reduceIte]; exact k)
        iterate 3 refine dd ?_
        rcases bt (decide (e4 ≤ e5)) with hg_60 | hg_60
        ·rw [hg_60]
         rw [hg_60, cond_true] at hb_44
         iterate 17 refine dd ?_
         refine DOps.nil (by kernel_rfl) (k _ ?_)
         refine cdt ?_
         refine sg fun K k => ?_
         refine oo ?_
         refine AOps.nil (k _ ?_)
         refine AWp.ret ?_
         refine lx hb_44 fun hx => ?_; cases hx; try dsimp only at h2_43
         cases h2_43; try dsimp only at hb_10
         refine lx hb_10 fun hx => ?_; cases hx; try dsimp only at h2_9
         cases h2_9; try dsimp only at h
         cases h; exact rt
        ·rw [hg_60]
         rw [hg_60, cond_false] at hb_44
         obtain ⟨e8, ⟨f_73, f_74, f_75, f_76⟩, hb_44⟩ := idx_bind hb_44
         iterate 4 refine dd ?_
         refine dd ?_ (by intro K k; simp (disch := omega) only [go_sem, f_75, ↓reduceIte]; exact k)
         iterate 3 refine dd ?_
         rcases bt (decide (e8 < (-101))) with hg_77 | hg_77
         ·rw [hg_77]
          rw [hg_77, cond_true] at hb_44
          iterate 9 refine dd ?_
          refine DOps.nil (by kernel_rfl) (k _ ?_)
          refine cdt ?_
          refine sg fun K k => ?_
          refine oo ?_
          refine AOps.nil (k _ ?_)
          refine AWp.ret ?_
          refine lx hb_44 fun hx => ?_; cases hx; try dsimp only at h2_43
          cases h2_43; try dsimp only at hb_10
          refine lx hb_10 fun hx => ?_; cases hx; try dsimp only at h2_9
          cases h2_9; try dsimp only at h
          cases h; exact rt
         ·rw [hg_77]
          rw [hg_77, cond_false] at hb_44
          iterate 4 refine dd ?_
          refine dd ?_ (by intro K k; simp (disch := omega) only [go_sem, f_75, ↓reduceIte]; exact k)
          iterate 4 refine dd ?_
          refine DOps.nil (by kernel_rfl) (k _ ?_)
          refine cd hb_44 (fun hb_44 => ?_) (fun hb_44 => ?_)
          ·refine sg fun K k => ?_
           refine oo ?_
           refine AOps.nil (k _ ?_)
           refine AWp.ret ?_
           refine lx hb_44 fun hx => ?_; cases hx; try dsimp only at h2_43
           cases h2_43; try dsimp only at hb_10
           refine lx hb_10 fun hx => ?_; cases hx; try dsimp only at h2_9
           cases h2_9; try dsimp only at h
           cases h; exact rt
          ·refine AWp.skip ?_
           refine K_50 _ ?_
           refine sd mo fun K k => ?_
           obtain ⟨e11, ⟨f_91, f_92, f_93, f_94⟩, hb_44⟩ := idx_bind hb_44
           iterate 4 refine dd ?_
           refine dd ?_ (by intro K k; simp (disch := omega) only [go_sem, f_93, ↓reduceIte]; exact k)
           iterate 2 refine dd ?_
           rcases bt (decide (0 ≤ e11)) with hg_95 | hg_95
           ·rw [hg_95]
            rw [hg_95, cond_true] at hb_44
            iterate 5 refine dd ?_
            refine dd ?_ (by intro K k; simp (disch := omega) only [go_sem, f_93, ↓reduceIte]; exact k)
            obtain ⟨e12, ⟨f_96, f_97, f_98, f_99⟩, hb_44⟩ := idx_bind hb_44
            iterate 2 refine dd ?_
            refine dd ?_ (by intro K k; simp (disch := omega) only [go_sem, f_98, ↓reduceIte]; exact k)
            iterate 4 refine dd ?_
            refine DOps.nil (by kernel_rfl) (k _ ?_)
            refine cd hb_44 (fun hb_44 => ?_) (fun hb_44 => ?_)
            ·refine sg fun K k => ?_
             refine oo ?_
             refine AOps.nil (k _ ?_)
             refine AWp.ret ?_
             refine lx hb_44 fun hx => ?_; cases hx; try dsimp only at h2_43
             cases h2_43; try dsimp only at hb_10
             refine lx hb_10 fun hx => ?_; cases hx; try dsimp only at h2_9
             cases h2_9; try dsimp only at h
             cases h; exact rt
            ·refine AWp.skip ?_
             refine K_49 _ ?_
             refine AWp.reg ?_
             iterate 3 refine oo ?_
             refine AOps.nil ?_
             exact ln hb_44 sb
           ·rw [hg_95]
            rw [hg_95, cond_false] at hb_44
            iterate 13 refine dd ?_
            refine DOps.nil (by kernel_rfl) (k _ ?_)
            refine cdf ?_
            refine AWp.skip ?_
            refine K_49 _ ?_
            refine AWp.reg ?_
            iterate 3 refine oo ?_
            refine AOps.nil ?_
            exact ln hb_44 sb
       ·rw [hg_51]
        rw [hg_51, cond_false] at hb_44
        obtain ⟨e13, ⟨f_102, f_103, f_104, f_105⟩, hb_44⟩ := idx_bind hb_44
        iterate 18 refine dd ?_
        refine dd ?_ (by intro K k; simp (disch := omega) only [go_sem, f_104, ↓reduceIte]; exact k)
        iterate 3 refine dd ?_
        rcases bt (decide (e13 < (-101))) with hg_106 | hg_106
        ·rw [hg_106]
         rw [hg_106, cond_true] at hb_44
         iterate 9 refine dd ?_
         refine DOps.nil (by kernel_rfl) (k _ ?_)
         refine cdt ?_
         refine sg fun K k => ?_
         refine oo ?_
         refine AOps.nil (k _ ?_)
         refine AWp.ret ?_
         refine lx hb_44 fun hx => ?_; cases hx; try dsimp only at h2_43
         cases h2_43; try dsimp only at hb_10
         refine lx hb_10 fun hx => ?_; cases hx; try dsimp only at h2_9
         cases h2_9; try dsimp only at h
         cases h; exact rt
        ·rw [hg_106]
         rw [hg_106, cond_false] at hb_44
         iterate 4 refine dd ?_
         refine dd ?_ (by intro K k; simp (disch := omega) only [go_sem, f_104, ↓reduceIte]; exact k)
         iterate 4 refine dd ?_
         refine DOps.nil (by kernel_rfl) (k _ ?_)
         refine cd hb_44 (fun hb_44 => ?_) (fun hb_44 => ?_)
         ·refine sg fun K k => ?_
          refine oo ?_
          refine AOps.nil (k _ ?_)
          refine AWp.ret ?_
          refine lx hb_44 fun hx => ?_; cases hx; try dsimp only at h2_43
          cases h2_43; try dsimp only at hb_10
          refine lx hb_10 fun hx => ?_; cases hx; try dsimp only at h2_9
          cases h2_9; try dsimp only at h
          cases h; exact rt
         ·refine AWp.skip ?_
          refine K_50 _ ?_
          refine sd mo fun K k => ?_
          obtain ⟨e16, ⟨f_120, f_121, f_122, f_123⟩, hb_44⟩ := idx_bind hb_44
          iterate 4 refine dd ?_
          refine dd ?_ (by intro K k; simp (disch := omega) only [go_sem, f_122, ↓reduceIte]; exact k)
          iterate 2 refine dd ?_
          rcases bt (decide (0 ≤ e16)) with hg_124 | hg_124
          ·rw [hg_124]
           rw [hg_124, cond_true] at hb_44
           iterate 5 refine dd ?_
           refine dd ?_ (by intro K k; simp (disch := omega) only [go_sem, f_122, ↓reduceIte]; exact k)
           obtain ⟨e17, ⟨f_125, f_126, f_127, f_128⟩, hb_44⟩ := idx_bind hb_44
           iterate 2 refine dd ?_
           refine dd ?_ (by intro K k; simp (disch := omega) only [go_sem, f_127, ↓reduceIte]; exact k)
           iterate 4 refine dd ?_
           refine DOps.nil (by kernel_rfl) (k _ ?_)
           refine cd hb_44 (fun hb_44 => ?_) (fun hb_44 => ?_)
           ·refine sg fun K k => ?_
            refine oo ?_
            refine AOps.nil (k _ ?_)
            refine AWp.ret ?_
            refine lx hb_44 fun hx => ?_; cases hx; try dsimp only at h2_43
            cases h2_43; try dsimp only at hb_10
            refine lx hb_10 fun hx => ?_; cases hx; try dsimp only at h2_9
            cases h2_9; try dsimp only at h
            cases h; exact rt
           ·refine AWp.skip ?_
            refine K_49 _ ?_
            refine AWp.reg ?_
            iterate 3 refine oo ?_
            refine AOps.nil ?_
            exact ln hb_44 sb
          ·rw [hg_124]
           rw [hg_124, cond_false] at hb_44
           iterate 13 refine dd ?_
           refine DOps.nil (by kernel_rfl) (k _ ?_)
           refine cdf ?_
           refine AWp.skip ?_
           refine K_49 _ ?_
           refine AWp.reg ?_
           iterate 3 refine oo ?_
           refine AOps.nil ?_
           exact ln hb_44 sb
      ·refine AWp.exit ?_
       refine lx hb_44 fun hx => ?_; cases hx; try dsimp only at h2_43
       exact ln h2_43 sb
    ·rintro _ hb_10; dsimp only at hb_10 ⊢
     refine AWp.reg ?_
     iterate 3 refine oo ?_
     refine AOps.nil ?_
     exact ln hb_10 sb
   ·refine AWp.exit ?_
    refine lx hb_10 fun hx => ?_; cases hx; try dsimp only at h2_9
    exact ln h2_9 sb
  ·rintro _ h; dsimp only at h ⊢
   refine sg fun K k => ?_
   refine oo ?_
   refine AOps.nil (k _ ?_)
   refine AWp.ret ?_
   cases h; exact rt
end Go.Pv.Tryd

namespace Go.Pv.Tryd
open Go.Proofs Go.Pv
set_option maxHeartbeats 4000000 in
theorem m_cocketref02_Follow_ok (k1 : Int) (d1 : (List Node)) (x1 : (List Int)) (r : (Int × Int)) (h : m_cocketref02_Follow k1 d1 x1 = some r) : PureFn Tryd.prog G 39 [.d (.int .i64 k1), .d (.imm 3 (lenc Node.pd d1)), .d (.imm 1 (lenc (PD.int .i64) x1))] (.tuple [.d (.int .i64 r.1), .d (.int .i64 r.2)]) := by
 unfold m_cocketref02_Follow at h
 refine pf Tryd.func39 Tryd.ntmps39 ?_
 refine sg fun K k => ?_
 iterate 2 refine oo ?_
 refine AOps.nil (k _ ?_)
 refine AWp.seq fun _ K_1 => ?_
 refine sg fun K k => ?_
 iterate 3 refine oo ?_
 refine ct 3 [0, 1, 2] [] (fun  t => (16, .d (.bool ((decide (k1 < 1)) || (decide (4 < k1))))) :: t) ?_ ?_
 ·rcases bt (decide (k1 < 1)) with hg_3 | hg_3
  ·rw [hg_3]
   iterate 3 refine oo ?_
   refine AOps.nil ?_
   exact sb
  ·rw [hg_3]
   iterate 3 refine oo ?_
   refine AOps.nil ?_
   exact sb
 refine oo ?_
 obtain ⟨b1, hc_4, h⟩ := bind_some h
 refine ct 5 [0, 1, 2] [] (fun  t => (22, .d (.bool b1)) :: t) ?_ ?_
 ·rcases bt ((decide (k1 < 1)) || (decide (4 < k1))) with hg_6 | hg_6
  ·rw [hg_6]
   rw [hg_6, cond_true] at hc_4
   iterate 5 refine oo ?_
   refine AOps.nil ?_
   cases hc_4
   exact sb
  ·rw [hg_6]
   rw [hg_6, cond_false] at hc_4
   iterate 2 refine oo ?_
   obtain ⟨r1, hx_5, hc_4⟩ := bind_some hc_4
   refine cl (m_cocketref02_Thing_ok k1 x1 _ hx_5) ?_
   iterate 2 refine oo ?_
   refine AOps.nil ?_
   cases hc_4
   exact sb
 refine oo ?_
 obtain ⟨b2, hc_7, h⟩ := bind_some h
 refine ct 5 [1, 2] [] (fun  t => (28, .d (.bool b2)) :: t) ?_ ?_
 ·rcases bt b1 with hg_9 | hg_9
  ·rw [hg_9]
   rw [hg_9, cond_true] at hc_7
   iterate 5 refine oo ?_
   refine AOps.nil ?_
   cases hc_7
   exact sb
  ·rw [hg_9]
   rw [hg_9, cond_false] at hc_7
   iterate 2 refine oo ?_
   obtain ⟨r2, hx_8, hc_7⟩ := bind_some hc_7
   refine cl (m_cocketref02_IsDiagram_ok k1 d1 _ hx_8) ?_
   iterate 2 refine oo ?_
   refine AOps.nil ?_
   cases hc_7
   exact sb
 refine AOps.nil (k _ ?_)
 refine cd h (fun h => ?_) (fun h => ?_)
 ·refine sg fun K k => ?_
  iterate 2 refine oo ?_
  refine AOps.nil (k _ ?_)
  refine AWp.ret ?_
  cases h; exact rt
 ·refine AWp.skip ?_
  refine K_1 _ ?_
  refine sg fun K k => ?_
  refine oo ?_
  refine AOps.nil (k _ ?_)
  refine jn (α := Int) [] [] (fun i t => (8, .d (.int .i64 i)) :: t) (fun i t => t) h ?_ ?_
  ·intro _ hj_12
   refine AWp.block ?_
   obtain ⟨x_17, hl_14, h2_15⟩ := bind_some hj_12
   refine lp (S := Int) [1, 2] [] (fun i t => (8, .d (.int .i64 i)) :: t) (fun i t => t) hl_14 ?_ ?_; exact sb; clear hl_14
   rintro at2 _ hb_16; unfold m_cocketref02_Follow_l1 at hb_16; try dsimp only at hb_16
   try dsimp only
   refine AWp.seq fun _ K_19 => ?_
   refine sg fun K k => ?_
   iterate 2 refine oo ?_
   refine AOps.nil (k _ ?_)
   refine cd hb_16 (fun hb_16 => ?_) (fun hb_16 => ?_)
   ·refine AWp.skip ?_
    refine K_19 _ ?_
    refine AWp.block ?_
    refine sg fun K k => ?_
    obtain ⟨e1, ⟨f_21, f_22, f_23, f_24⟩, hb_16⟩ := idx_bind hb_16
    iterate 3 refine oo ?_
    refine oo ?_ (by intro K k; simp (disch := omega) only [go_sem, f_23, ↓reduceIte]; exact k)
    iterate 2 refine oo ?_
    refine AOps.nil (k _ ?_)
    refine sg fun K k => ?_
    refine oo ?_
    refine AOps.nil (k _ ?_)
    refine jn (α := Int) [1, 2, 9] [1000] (fun i t => (10, .d (.int .i64 i)) :: t) (fun i t => t) hb_16 ?_ ?_
    ·intro _ hj_26
     refine AWp.block ?_
     obtain ⟨x_31, hl_28, h2_29⟩ := bind_some hj_26
     refine lp (S := Int) [1, 2, 9] [1000] (fun i t => (10, .d (.int .i64 i)) :: t) (fun i t => t) hl_28 ?_ ?_; exact sb; clear hl_28
     rintro i2 _ hb_30; unfold m_cocketref02_Follow_l2 at hb_30; try dsimp only at hb_30
     try dsimp only
     refine AWp.seq fun _ K_33 => ?_
     refine sd mo fun K k => ?_
     obtain ⟨e2, ⟨f_34, f_35, f_36, f_37⟩, hb_30⟩ := idx_bind hb_30
     iterate 4 refine dd ?_
     refine dd ?_ (by intro K k; simp (disch := omega) only [go_sem, f_36, ↓reduceIte]; exact k)
     obtain ⟨e3, ⟨f_38, f_39, f_40, f_41⟩, hb_30⟩ := idx_bind hb_30
     iterate 4 refine dd ?_
     refine dd ?_ (by intro K k; simp (disch := omega) only [go_sem, f_40, ↓reduceIte]; exact k)
     refine dd ?_
     refine DOps.nil (by kernel_rfl) (k _ ?_)
     refine cd hb_30 (fun hb_30 => ?_) (fun hb_30 => ?_)
     ·refine AWp.skip ?_
      refine K_33 _ ?_
      refine AWp.block ?_
      refine AWp.reg ?_
      iterate 3 refine oo ?_
      refine AOps.nil ?_
      exact ln hb_30 sb
     ·refine AWp.exit ?_
      refine lx hb_30 fun hx => ?_; cases hx; try dsimp only at h2_29
      cases h2_29; exact sb
    ·rintro i1 hb_16; dsimp only at hb_16 ⊢
     refine AWp.reg ?_
     obtain ⟨e4, ⟨f_43, f_44, f_45, f_46⟩, hb_16⟩ := idx_bind hb_16
     iterate 4 refine oo ?_
     refine oo ?_ (by intro K k; simp (disch := omega) only [go_sem, f_45, ↓reduceIte]; exact k)
     refine oo ?_
     refine AOps.nil ?_
     exact ln hb_16 sb
   ·refine AWp.exit ?_
    refine lx hb_16 fun hx => ?_; cases hx; try dsimp only at h2_15
    cases h2_15; exact sb
  ·rintro at1 h; dsimp only at h ⊢
   refine AWp.seq fun _ K_47 => ?_
   refine sg fun K k => ?_
   iterate 2 refine oo ?_
   refine AOps.nil (k _ ?_)
   refine cd h (fun h => ?_) (fun h => ?_)
   ·refine sg fun K k => ?_
    iterate 2 refine oo ?_
    refine AOps.nil (k _ ?_)
    refine AWp.ret ?_
    cases h; exact rt
   ·refine AWp.skip ?_
    refine K_47 _ ?_
    refine sg fun K k => ?_
    iterate 4 refine oo ?_
    refine AOps.nil (k _ ?_)
    refine AWp.ret ?_
    cases h; exact rt
end Go.Pv.Tryd

namespace Go.Pv.Tryd
open Go.Proofs Go.Pv
set_option maxHeartbeats 4000000 in
theorem m_cocketlaw02_TariffFollows_ok (k1 : Int) (d1 : (List Node)) (thing1 : (List Int)) (r : Bool) (h : m_cocketlaw02_TariffFollows k1 d1 thing1 = some r) : PureFn Tryd.prog G 10 [.d (.int .i64 k1), .d (.imm 3 (lenc Node.pd d1)), .d (.imm 1 (lenc (PD.int .i64) thing1))] (.d (.bool r)) := by
 unfold m_cocketlaw02_TariffFollows at h
 refine pf Tryd.func10 Tryd.ntmps10 ?_
 refine sg fun K k => ?_
 refine oo ?_
 refine AOps.nil (k _ ?_)
 refine AWp.seq fun _ K_1 => ?_
 refine sg fun K k => ?_
 iterate 4 refine oo ?_
 refine ct 4 [0, 1, 2] [] (fun  t => (19, .d (.bool ((decide (20 < (thing1.length : Int))) || (decide (200 < (d1.length : Int)))))) :: t) ?_ ?_
 ·rcases bt (decide (20 < (thing1.length : Int))) with hg_3 | hg_3
  ·rw [hg_3]
   iterate 4 refine oo ?_
   refine AOps.nil ?_
   exact sb
  ·rw [hg_3]
   iterate 4 refine oo ?_
   refine AOps.nil ?_
   exact sb
 refine AOps.nil (k _ ?_)
 refine cd h (fun h => ?_) (fun h => ?_)
 ·refine sg fun K k => ?_
  obtain ⟨r1, hx_5, h⟩ := bind_some h
  refine cl (m_cocketlaw02_alive_ok _ hx_5) ?_
  refine oo ?_
  refine AOps.nil (k _ ?_)
  refine AWp.ret ?_
  cases h; exact rt
 ·refine AWp.skip ?_
  refine K_1 _ ?_
  refine jm (ι := Unit) [0, 1, 2] [] (fun i t => t) (fun i t => t) .inl h ?_ ?_
  ·intro _ hj_7 h
   refine sg fun K k => ?_
   refine oo ?_
   refine AOps.nil (k _ ?_)
   refine AWp.block ?_
   obtain ⟨x_12, hl_9, h2_10⟩ := bind_some hj_7
   refine lp (S := Int) [0, 1, 2] [] (fun i t => (7, .d (.int .i64 i)) :: t) (fun i t => t) hl_9 ?_ ?_; exact sb; clear hl_9
   rintro i1 _ hb_11; unfold m_cocketlaw02_TariffFollows_l1 at hb_11; try dsimp only at hb_11
   try dsimp only
   refine AWp.seq fun _ K_14 => ?_
   refine sg fun K k => ?_
   iterate 4 refine oo ?_
   refine AOps.nil (k _ ?_)
   refine cd hb_11 (fun hb_11 => ?_) (fun hb_11 => ?_)
   ·refine AWp.skip ?_
    refine K_14 _ ?_
    refine AWp.seq fun _ K_16 => ?_
    refine AWp.block ?_
    refine sg fun K k => ?_
    obtain ⟨e1, ⟨f_17, f_18, f_19, f_20⟩, hb_11⟩ := idx_bind hb_11
    iterate 4 refine oo ?_
    refine oo ?_ (by intro K k; simp (disch := omega) only [go_sem, f_19, ↓reduceIte]; exact k)
    iterate 3 refine oo ?_
    refine ct 8 [0, 1, 2, 7] [] (fun  t => (42, .d (.bool ((decide (100 < (e1.Cuts.length : Int))) || (decide (100 < (e1.To.length : Int)))))) :: t) ?_ ?_
    ·rcases bt (decide (100 < (e1.Cuts.length : Int))) with hg_22 | hg_22
     ·rw [hg_22]
      iterate 8 refine oo ?_
      refine AOps.nil ?_
      exact sb
     ·rw [hg_22]
      iterate 4 refine oo ?_
      refine oo ?_ (by intro K k; simp (disch := omega) only [go_sem, f_19, ↓reduceIte]; exact k)
      iterate 3 refine oo ?_
      refine AOps.nil ?_
      exact sb
    refine AOps.nil (k _ ?_)
    refine cd hb_11 (fun hb_11 => ?_) (fun hb_11 => ?_)
    ·refine sg fun K k => ?_
     obtain ⟨r2, hx_24, hb_11⟩ := bind_some hb_11
     refine cl (m_cocketlaw02_alive_ok _ hx_24) ?_
     refine oo ?_
     refine AOps.nil (k _ ?_)
     refine AWp.ret ?_
     refine lx hb_11 fun hx => ?_; cases hx; try dsimp only at h2_10
     cases h2_10; try dsimp only at h
     cases h; exact rt
    ·refine AWp.skip ?_
     refine K_16 _ ?_
     refine AWp.reg ?_
     iterate 3 refine oo ?_
     refine AOps.nil ?_
     exact ln hb_11 sb
   ·refine AWp.exit ?_
    refine lx hb_11 fun hx => ?_; cases hx; try dsimp only at h2_10
    exact ln h2_10 sb
  ·rintro _ h; dsimp only at h ⊢
   refine sg fun K k => ?_
   iterate 3 refine oo ?_
   obtain ⟨r3, hx_25, h⟩ := bind_some h
   refine cl (m_tariff_Follow_ok k1 d1 thing1 _ hx_25) ?_
   iterate 5 refine oo ?_
   refine AOps.nil (k _ ?_)
   refine sg fun K k => ?_
   iterate 3 refine oo ?_
   obtain ⟨r4, hx_26, h⟩ := bind_some h
   refine cl (m_cocketref02_Follow_ok k1 d1 thing1 _ hx_26) ?_
   iterate 5 refine oo ?_
   refine AOps.nil (k _ ?_)
   refine sg fun K k => ?_
   iterate 4 refine oo ?_
   refine ct 4 [] [] (fun  t => (65, .d (.bool ((decide (r3.1 = r4.1)) && (decide (r3.2 = r4.2))))) :: t) ?_ ?_
   ·rcases bt (decide (r3.1 = r4.1)) with hg_28 | hg_28
    ·rw [hg_28]
     iterate 4 refine oo ?_
     refine AOps.nil ?_
     exact sb
    ·rw [hg_28]
     iterate 4 refine oo ?_
     refine AOps.nil ?_
     exact sb
   refine oo ?_
   obtain ⟨b1, hc_29, h⟩ := bind_some h
   refine ct 2 [] [] (fun  t => (68, .d (.bool b1)) :: t) ?_ ?_
   ·rcases bt ((decide (r3.1 = r4.1)) && (decide (r3.2 = r4.2))) with hg_31 | hg_31
    ·rw [hg_31]
     rw [hg_31, cond_true] at hc_29
     obtain ⟨r5, hx_30, hc_29⟩ := bind_some hc_29
     refine cl (m_cocketlaw02_alive_ok _ hx_30) ?_
     refine oo ?_
     refine AOps.nil ?_
     cases hc_29
     exact sb
    ·rw [hg_31]
     rw [hg_31, cond_false] at hc_29
     iterate 2 refine oo ?_
     refine AOps.nil ?_
     cases hc_29
     exact sb
   refine oo ?_
   refine AOps.nil (k _ ?_)
   refine AWp.ret ?_
   cases h; exact rt
end Go.Pv.Tryd

namespace Go.Pv.Tryd
open Go Go.Proofs Go.Pv Go.ChangeShapes Go.WideShapes Go.ChangeAt Go.RowKit Go.Proofs.YtnfnkllhjaemnaaDoor
set_option maxRecDepth 100000 in
theorem follows_lifted (os : Os) (started : os.Started) (H : Type) (enc : TypeId × Value → H) :
    ReturnsInHanded {} Tryd.checked os 10 .any (fun w args => (Rows.tariffFollowsSpec.pre enc Tryd.prog Tryd.f10 [] false w args ∧ laidMetH Tryd.prog laid1 w) ∧ sizedMet enc Tryd.prog Tryd.f10 (OpenSpec.ofChange Rows.tariffFollowsSpec) false w args)
      (Rows.tariffFollowsSpec.post enc Tryd.prog Tryd.f10 false true false false) := by
  refine returnsInHanded_of_change_and (C := Tryd.checked) (X := fun w _ => laidMetH Tryd.prog laid1 w) (fun _ _ _ hh h => h.of_heap hh) own started (by kernel_rfl) Tryd.func10
    (ChangeSpec.witness_shaped (enc := enc) (C := Tryd.checked) (os := os) (X := fun w _ => laidMetH Tryd.prog laid1 w) false (World.doorLaid Tryd.prog 400 os) #[.int .i64 0, .slice none 0 0, .slice none 0 0] 8 rfl (World.shaped_of_RefB (by kernel_rfl) (by kernel_rfl)) (by kernel_rfl) (by kernel_rfl) (by kernel_rfl) (door_met os _)) ?_
  intro W base args ds gs before hval0 hW _ _ hL _
  have hval : ∀ (j : Nat) t v, Tryd.f10.params[j]? = some t → args[j]? = some v → Value.okWide Tryd.prog W .any base t v := hval0
  have hW' := hW
  obtain ⟨p, q, hA0, hV, rfl, hfz, hnd⟩ := hW
  have hA : DataW.TrodAll enc Tryd.prog W 0 (fun _ => true) true Tryd.f10.params.toList args.toList ds p := hA0
  obtain ⟨rfl, rfl⟩ := trodVars_none hV
  rw [Tryd.params10] at hA hval
  obtain ⟨v0, vs0, d0, ds0, p0, q0, ha, rfl, rfl, t0, hA⟩ := trodAll_cons hA
  obtain ⟨v1, vs1, d1, ds1, p1, q1, rfl, rfl, rfl, t1, hA⟩ := trodAll_cons hA
  obtain ⟨v2, vs2, d2, ds2, p2, q2, rfl, rfl, rfl, t2, hA⟩ := trodAll_cons hA
  obtain ⟨rfl, rfl, rfl⟩ := trodAll_nil hA
  have hargs : args = #[v0, v1, v2] := Array.toList_inj.1 ha
  subst hargs
  obtain ⟨x0, r0⟩ := rep_arg_int Tryd.underlying3 (hval 0 3 v0 rfl rfl)
  obtain ⟨x1, r1⟩ := rep_arg_slice Tryd.underlying32 opens_Node (by decide) (hval 1 32 v1 rfl rfl) t1
  obtain ⟨x2, r2⟩ := rep_arg_slice Tryd.underlying26 (opens_int Tryd.underlying3 (by kernel_rfl)) (by decide) (hval 2 26 v2 rfl rfl) t2
  have hw := calls_of_pure (args := [.int .i64 x0, .imm 3 (lenc Node.pd x1), .imm 1 (lenc (PD.int .i64) x2)]) (vs := [v0, v1, v2]) (m_cocketlaw02_TariffFollows_ok x0 x1 x2 true (TariffFollows_law x0 x1 x2)) rfl (fun i hi => by
    match i, hi with
    | 0, _ => exact r0
    | 1, _ => exact r1
    | 2, _ => exact r2) (glob_of_laid hL)
  refine hw.mono fun e W' ⟨he, hs⟩ => ?_
  subst he
  exact ⟨_, rfl, law_post rfl hW' hs rfl (t := 4) (by rfl) Tryd.underlying4 laidOut (by kernel_rfl)⟩
theorem follows_said : Rows.TariffFollowsSaid :=
  OpenClaim.holds_of_wide 10 Tryd.f10 rfl rfl rfl rfl rfl rfl rfl ⟨rfl, rfl, rfl, rfl, rfl⟩ rfl rfl rfl rfl rfl (by kernel_rfl) Tryd.func10 (by kernel_rfl)
    (of_decide_eq_true (by kernel_rfl)) (by unfold Func.isWrapper; first | (rw [if_pos (by decide +kernel)]; kernel_rfl) | (rw [if_neg (by decide +kernel)]; exact ⟨rfl, rfl⟩))
    (fun os started H enc _ => follows_lifted os started H enc)
theorem follows_card : Rows.TariffFollowsCardSaid :=
  Claim7.holds_tied_plain_at .later [] [.data, .data, .data] true Rows.tariffFollowsCard.stood.harness false
    follows_said (fun _ h => by cases h) (by kernel_rfl) (fun _ h => by cases h) tariffFollows_row_tie rfl ⟨rfl, rfl⟩ (by kernel_rfl) rfl
    (fun f fn hf hfn => by
      obtain rfl : f = 10 := Option.some.inj ((show Tryd.prog.funcNamed Rows.tariffFollowsRow.func = some 10 by kernel_rfl).symm.trans hf) |>.symm
      obtain rfl : fn = Tryd.f10 := (Option.some.inj (Tryd.func10.symm.trans hfn)).symm
      exact ⟨by kernel_rfl, fun j t ht => by
        rw [Tryd.params10] at ht
        have hm : t ∈ [3, 32, 26] := by simpa using Array.mem_of_getElem? ht
        have hall : ([3, 32, 26].all fun u => !Tryd.prog.wantsStandIn u) = true := by kernel_rfl
        exact (show Tryd.prog.wantsStandIn t = false by simpa using List.all_eq_true.1 hall t hm)⟩)
    (by kernel_rfl)
end Go.Pv.Tryd

namespace Go.Proofs.YtnfnkllhjaemnaaDoor

theorem follows_card : Rows.TariffFollowsCardSaid := Go.Pv.Tryd.follows_card

#print axioms follows_card

end Go.Proofs.YtnfnkllhjaemnaaDoor
