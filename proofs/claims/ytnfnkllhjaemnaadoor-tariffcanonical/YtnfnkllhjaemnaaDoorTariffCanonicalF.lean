/- TariffCanonical answers true for every input, as its tied card says: under the conditions of the card (Rows, Cards, Tie), no more. Part 6 of 7: by one AI agent and its programs; no person has read it. -/
import Derived.Test.YtnfnkllhjaemnaaDoorTariffCanonicalA
import Derived.Test.YtnfnkllhjaemnaaDoorTariffCanonicalB
import Derived.Test.YtnfnkllhjaemnaaDoorTariffCanonicalC
import Derived.Test.YtnfnkllhjaemnaaDoorTariffCanonicalD
import Derived.Test.YtnfnkllhjaemnaaDoorTariffCanonicalE
import Derived.Shelf.Sort.Plain
import Derived.Shelf.Slices.CompactI
import Derived.Shelf.Slices.In.SortNone
import Derived.Test.YtnfnkllhjaemnaaDoorProg
import Derived.Shelf.Strconv.Itoa0
import Derived.Shelf.Strconv.Itoa1
import Derived.Shelf.LaysM
import Derived.Shelf.Strconv.Itoa2
import Derived.Shelf.Strconv.Itoa3
set_option linter.unusedSimpArgs false
set_option linter.unusedVariables false
set_option linter.all false

namespace Go.Pv.Tryd
open Go.Proofs Go.Pv
theorem wjK (t1 : (List Rule)) (mark1 : Int) (set1 : Int) (r : (List Int)) (h : wdG t1 mark1 set1 = some r) : PureFn Tryd.prog G 53 [.d (.imm 2 (wab Rule.pd t1)), .d (.int .i64 mark1), .d (.int .i64 set1)] (.d (.imm 1 (wab (PD.int .i64) r))) := by
 unfold wdG at h
 refine pf Tryd.func53 Tryd.ntmps53 ?_
 refine sg fun K k => ?_
 refine oo ?_
 refine AOps.nil (k _ ?_)
 refine sg fun K k => ?_
 refine ol ?_
 refine oo ?_
 refine AOps.nil (k _ ?_)
 refine jn (α := (List Int)) [] [] (fun i t => (7, .d (.imm 1 (wab (PD.int .i64) i))) :: t) (fun i t => t) h ?_ ?_
 ·intro _ hj_2
  refine sg fun K k => ?_
  refine oo ?_
  refine AOps.nil (k _ ?_)
  refine AWp.block ?_
  obtain ⟨x_7, hl_4, h2_5⟩ := bind_some hj_2
  refine lp (S := ((List Int) × Int)) [0, 1, 2] [] (fun i t => (7, .d (.imm 1 (wab (PD.int .i64) i.1))) :: (8, .d (.int .i64 i.2)) :: t) (fun i t => t) hl_4 ?_ ?_; exact sb; clear hl_4
  rintro ⟨out2, i1⟩ _ hb_6; unfold wcf at hb_6; try dsimp only at hb_6
  try dsimp only
  refine AWp.seq fun _ K_9 => ?_
  refine sg fun K k => ?_
  iterate 4 refine oo ?_
  refine AOps.nil (k _ ?_)
  refine cd hb_6 (fun hb_6 => ?_) (fun hb_6 => ?_)
  ·refine AWp.skip ?_
   refine K_9 _ ?_
   refine jn (α := (List Int)) [0, 1, 2, 8] [] (fun i t => (7, .d (.imm 1 (wab (PD.int .i64) i))) :: t) (fun i t => t) hb_6 ?_ ?_
   ·intro _ hj_12
    refine AWp.block ?_
    refine sg fun K k => ?_
    obtain ⟨hg_13, hj_12⟩ := wai hj_12
    iterate 5 refine oo ?_
    refine AOps.nil (k _ ?_)
    refine cd hj_12 (fun hj_12 => ?_) (fun hj_12 => ?_)
    ·refine jn (α := (List Int)) [0, 1, 2, 8] [] (fun i t => (7, .d (.imm 1 (wab (PD.int .i64) i))) :: t) (fun i t => t) hj_12 ?_ ?_
     ·intro _ hj_16
      refine sg fun K k => ?_
      obtain ⟨e1, ⟨f_17, f_18, f_19, f_20⟩, hj_16⟩ := wak hj_16
      iterate 4 refine oo ?_
      refine oo ?_ (by intro K k; simp (disch := omega) only [go_sem, f_19, ↓reduceIte]; exact k)
      obtain ⟨e2, ⟨f_21, f_22, f_23, f_24⟩, hj_16⟩ := wak hj_16
      iterate 3 refine oo ?_
      refine oo ?_ (by intro K k; simp (disch := omega) only [go_sem, f_23, ↓reduceIte]; exact k)
      refine oo ?_
      refine AOps.nil (k _ ?_)
      refine cd hj_16 (fun hj_16 => ?_) (fun hj_16 => ?_)
      ·refine AWp.reg ?_
       obtain ⟨e3, ⟨f_26, f_27, f_28, f_29⟩, hj_16⟩ := wak hj_16
       iterate 5 refine oo ?_
       refine oo ?_ (by intro K k; simp (disch := omega) only [go_sem, f_28, ↓reduceIte]; exact k)
       obtain ⟨e4, ⟨f_30, f_31, f_32, f_33⟩, hj_16⟩ := wak hj_16
       iterate 3 refine oo ?_
       refine oo ?_ (by intro K k; simp (disch := omega) only [go_sem, f_32, ↓reduceIte]; exact k)
       obtain ⟨r1, hx_34, hj_16⟩ := bind_some hj_16
       refine cl (wgR out2 e4.Lo _ hx_34) ?_
       refine oo ?_
       refine AOps.nil ?_
       cases hj_16; exact sb
      ·refine AWp.skip ?_
       cases hj_16; exact sb
     ·rintro out4 hj_12; dsimp only at hj_12 ⊢
      refine AWp.reg ?_
      obtain ⟨e5, ⟨f_35, f_36, f_37, f_38⟩, hj_12⟩ := wak hj_12
      iterate 5 refine oo ?_
      refine oo ?_ (by intro K k; simp (disch := omega) only [go_sem, f_37, ↓reduceIte]; exact k)
      obtain ⟨e6, ⟨f_39, f_40, f_41, f_42⟩, hj_12⟩ := wak hj_12
      iterate 3 refine oo ?_
      refine oo ?_ (by intro K k; simp (disch := omega) only [go_sem, f_41, ↓reduceIte]; exact k)
      obtain ⟨r2, hx_43, hj_12⟩ := bind_some hj_12
      refine cl (wgR out4 e6.Hi _ hx_43) ?_
      refine oo ?_
      refine AOps.nil ?_
      cases hj_12; exact sb
    ·refine AWp.skip ?_
     cases hj_12; exact sb
   ·rintro out3 hb_6; dsimp only at hb_6 ⊢
    refine AWp.reg ?_
    iterate 3 refine oo ?_
    refine AOps.nil ?_
    exact ln hb_6 sb
  ·refine AWp.exit ?_
   refine lx hb_6 fun hx => ?_; cases hx; try dsimp only at h2_5
   cases h2_5; exact sb
 ·rintro out1 h; dsimp only at h ⊢
  refine sg fun K k => ?_
  iterate 2 refine oo ?_
  refine AOps.nil (k _ ?_)
  refine AWp.ret ?_
  cases h; exact rt
end Go.Pv.Tryd

namespace Go.Pv.Tryd
open Go.Proofs Go.Pv
theorem wiH (k1 : Int) (t1 : (List Rule)) (most1 : Int) (r : Int) (h : wcv k1 t1 most1 = some r) : PureFn Tryd.prog G 45 [.d (.int .i64 k1), .d (.imm 2 (wab Rule.pd t1)), .d (.int .i64 most1)] (.d (.int .i64 r)) := by
 unfold wcv at h
 refine pf Tryd.func45 Tryd.ntmps45 ?_
 refine sg fun K k => ?_
 refine oo ?_
 refine AOps.nil (k _ ?_)
 refine AWp.seq fun _ K_1 => ?_
 refine sg fun K k => ?_
 iterate 2 refine oo ?_
 obtain ⟨r1, hx_2, h⟩ := bind_some h
 refine cl (wjJ k1 t1 _ hx_2) ?_
 refine oo ?_
 refine AOps.nil (k _ ?_)
 refine cd h (fun h => ?_) (fun h => ?_)
 ·refine sg fun K k => ?_
  refine oo ?_
  refine AOps.nil (k _ ?_)
  refine AWp.ret ?_
  cases h; exact rt
 ·refine AWp.skip ?_
  refine K_1 _ ?_
  refine sg fun K k => ?_
  refine oo ?_
  refine AOps.nil (k _ ?_)
  refine jn (α := Int) [] [] (fun i t => (7, .d (.int .i64 i)) :: t) (fun i t => t) h ?_ ?_
  ·intro _ hj_5
   refine sg fun K k => ?_
   refine oo ?_
   refine AOps.nil (k _ ?_)
   refine AWp.block ?_
   obtain ⟨x_10, hl_7, h2_8⟩ := bind_some hj_5
   refine lp (S := (Int × Int)) [0, 1, 2] [] (fun i t => (7, .d (.int .i64 i.1)) :: (8, .d (.int .i64 i.2)) :: t) (fun i t => t) hl_7 ?_ ?_; exact sb; clear hl_7
   rintro ⟨out2, m1⟩ _ hb_9; unfold waw at hb_9; try dsimp only at hb_9
   try dsimp only
   refine AWp.seq fun _ K_12 => ?_
   refine sg fun K k => ?_
   iterate 4 refine oo ?_
   refine ct 4 [0, 1, 2, 7, 8] [] (fun  t => (20, .d (.bool ((decide (m1 < k1)) && (decide (out2 < most1))))) :: t) ?_ ?_
   ·rcases bt (decide (m1 < k1)) with hg_14 | hg_14
    ·rw [hg_14]
     iterate 4 refine oo ?_
     refine AOps.nil ?_
     exact sb
    ·rw [hg_14]
     iterate 4 refine oo ?_
     refine AOps.nil ?_
     exact sb
   refine AOps.nil (k _ ?_)
   refine cd hb_9 (fun hb_9 => ?_) (fun hb_9 => ?_)
   ·refine AWp.skip ?_
    refine K_12 _ ?_
    refine AWp.seq fun _ K_16 => ?_
    refine AWp.block ?_
    refine AWp.reg ?_
    iterate 4 refine oo ?_
    obtain ⟨r2, hx_17, hb_9⟩ := bind_some hb_9
    refine cl (wkr t1 _ hx_17) ?_
    obtain ⟨r3, hx_18, hb_9⟩ := bind_some hb_9
    refine cl (wjK t1 m1 r2 _ hx_18) ?_
    iterate 3 refine oo ?_
    refine AOps.nil ?_
    refine K_16 _ ?_
    refine AWp.reg ?_
    iterate 3 refine oo ?_
    refine AOps.nil ?_
    exact ln hb_9 sb
   ·refine AWp.exit ?_
    refine lx hb_9 fun hx => ?_; cases hx; try dsimp only at h2_8
    cases h2_8; exact sb
  ·rintro out1 h; dsimp only at h ⊢
   refine sg fun K k => ?_
   iterate 2 refine oo ?_
   refine AOps.nil (k _ ?_)
   refine AWp.ret ?_
   cases h; exact rt
end Go.Pv.Tryd

namespace Go.Pv.Tryd
open Go.Proofs Go.Pv
theorem wgS (k1 : Int) (t1 : (List Rule)) (r : Bool) (h : wb5 k1 t1 = some r) : PureFn Tryd.prog G 18 [.d (.int .i64 k1), .d (.imm 2 (wab Rule.pd t1))] (.d (.bool r)) := by
 unfold wb5 at h
 refine pf Tryd.func18 Tryd.ntmps18 ?_
 refine sg fun K k => ?_
 refine oo ?_
 refine AOps.nil (k _ ?_)
 refine jm (ι := Unit) [0, 1] [] (fun i t => t) (fun i t => t) .inl h ?_ ?_
 ·intro _ hj_2 h
  refine sg fun K k => ?_
  refine oo ?_
  refine AOps.nil (k _ ?_)
  refine AWp.block ?_
  obtain ⟨x_7, hl_4, h2_5⟩ := bind_some hj_2
  refine lp (S := Int) [0, 1] [] (fun i t => (5, .d (.int .i64 i)) :: t) (fun i t => t) hl_4 ?_ ?_; exact sb; clear hl_4
  rintro i1 _ hb_6; unfold waG at hb_6; try dsimp only at hb_6
  try dsimp only
  refine AWp.seq fun _ K_9 => ?_
  refine sg fun K k => ?_
  iterate 4 refine oo ?_
  refine AOps.nil (k _ ?_)
  refine cd hb_6 (fun hb_6 => ?_) (fun hb_6 => ?_)
  ·refine AWp.skip ?_
   refine K_9 _ ?_
   refine AWp.seq fun _ K_11 => ?_
   refine AWp.block ?_
   refine sg fun K k => ?_
   iterate 3 refine oo ?_
   obtain ⟨b1, hc_12, hb_6⟩ := bind_some hb_6
   refine ct 8 [0, 1, 5] [] (fun  t => (22, .d (.bool b1)) :: t) ?_ ?_
   ·rcases bt (decide (40 ≤ i1)) with hg_17 | hg_17
    ·rw [hg_17]
     rw [hg_17, cond_true] at hc_12
     iterate 8 refine oo ?_
     refine AOps.nil ?_
     cases hc_12
     exact sb
    ·rw [hg_17]
     rw [hg_17, cond_false] at hc_12
     obtain ⟨e1, ⟨f_13, f_14, f_15, f_16⟩, hc_12⟩ := wak hc_12
     iterate 4 refine oo ?_
     refine oo ?_ (by intro K k; simp (disch := omega) only [go_sem, f_15, ↓reduceIte]; exact k)
     iterate 3 refine oo ?_
     refine AOps.nil ?_
     cases hc_12
     exact sb
   refine AOps.nil (k _ ?_)
   refine cd hb_6 (fun hb_6 => ?_) (fun hb_6 => ?_)
   ·refine sg fun K k => ?_
    refine oo ?_
    refine AOps.nil (k _ ?_)
    refine AWp.ret ?_
    refine lx hb_6 fun hx => ?_; cases hx; try dsimp only at h2_5
    cases h2_5; try dsimp only at h
    cases h; exact rt
   ·refine AWp.skip ?_
    refine K_11 _ ?_
    refine AWp.reg ?_
    iterate 3 refine oo ?_
    refine AOps.nil ?_
    exact ln hb_6 sb
  ·refine AWp.exit ?_
   refine lx hb_6 fun hx => ?_; cases hx; try dsimp only at h2_5
   exact ln h2_5 sb
 ·rintro _ h; dsimp only at h ⊢
  refine sg fun K k => ?_
  iterate 2 refine oo ?_
  obtain ⟨r1, hx_19, h⟩ := bind_some h
  refine cl (wiH k1 t1 30000 _ hx_19) ?_
  iterate 2 refine oo ?_
  refine AOps.nil (k _ ?_)
  refine AWp.ret ?_
  cases h; exact rt
end Go.Pv.Tryd

namespace Go.Pv.Tryd
open Go.Proofs Go.Pv
theorem weE (r : (List Rule)) (h : wb7 = some r) : PureFn Tryd.prog G 46 [] (.d (.imm 2 (wab Rule.pd r))) := by
 unfold wb7 at h
 refine pf Tryd.func46 Tryd.ntmps46 ?_
 refine sg fun K k => ?_
 refine oo ?_
 refine AOps.nil (k _ ?_)
 refine sg fun K k => ?_
 refine oo ?_
 refine ol ?_
 iterate 2 refine oo ?_
 refine ol ?_
 iterate 2 refine oo ?_
 refine ol ?_
 refine oo ?_
 refine ol ?_
 refine oo ?_
 refine AOps.nil (k _ ?_)
 refine AWp.ret ?_
 cases h; exact rt
end Go.Pv.Tryd

namespace Go.Pv.Tryd
open Go.Proofs Go.Pv
theorem wh2 (k1 : Int) (r : Bool) (h : wcS k1 = some r) : PureFn Tryd.prog G 66 [.d (.int .i64 k1)] (.d (.bool r)) := by
 unfold wcS at h
 refine pf Tryd.func66 Tryd.ntmps66 ?_
 refine sg fun K k => ?_
 refine oo ?_
 refine AOps.nil (k _ ?_)
 refine sg fun K k => ?_
 iterate 3 refine oo ?_
 refine ct 3 [] [] (fun  t => (8, .d (.bool ((decide (1 ≤ k1)) && (decide (k1 ≤ 4))))) :: t) ?_ ?_
 ·rcases bt (decide (1 ≤ k1)) with hg_2 | hg_2
  ·rw [hg_2]
   iterate 3 refine oo ?_
   refine AOps.nil ?_
   exact sb
  ·rw [hg_2]
   iterate 3 refine oo ?_
   refine AOps.nil ?_
   exact sb
 refine oo ?_
 refine AOps.nil (k _ ?_)
 refine AWp.ret ?_
 cases h; exact rt
end Go.Pv.Tryd

namespace Go.Pv.Tryd
open Go.Proofs Go.Pv
theorem wlF (b1 : Band) (r : Bool) (h : wdO b1 = some r) : PureFn Tryd.prog G 103 [.d (.agg [(.int .i64 b1.Lo), (.int .i64 b1.Hi)])] (.d (.bool r)) := by
 unfold wdO at h
 refine pf Tryd.func103 Tryd.ntmps103 ?_
 refine sg fun K k => ?_
 iterate 2 refine oo ?_
 refine AOps.nil (k _ ?_)
 refine sg fun K k => ?_
 iterate 4 refine oo ?_
 refine ct 6 [1] [1000] (fun  t => (12, .d (.bool ((decide (b1.Lo < 0)) || (decide (b1.Hi ≤ b1.Lo))))) :: t) ?_ ?_
 ·rcases bt (decide (b1.Lo < 0)) with hg_2 | hg_2
  ·rw [hg_2]
   iterate 6 refine oo ?_
   refine AOps.nil ?_
   exact sb
  ·rw [hg_2]
   iterate 6 refine oo ?_
   refine AOps.nil ?_
   exact sb
 refine oo ?_
 refine ct 4 [] [] (fun  t => (17, .d (.bool (((decide (b1.Lo < 0)) || (decide (b1.Hi ≤ b1.Lo))) || (decide (1000 < b1.Hi))))) :: t) ?_ ?_
 ·rcases bt ((decide (b1.Lo < 0)) || (decide (b1.Hi ≤ b1.Lo))) with hg_4 | hg_4
  ·rw [hg_4]
   iterate 4 refine oo ?_
   refine AOps.nil ?_
   exact sb
  ·rw [hg_4]
   iterate 4 refine oo ?_
   refine AOps.nil ?_
   exact sb
 refine oo ?_
 refine AOps.nil (k _ ?_)
 refine AWp.ret ?_
 cases h; exact rt
end Go.Pv.Tryd

namespace Go.Pv.Tryd
open Go.Proofs Go.Pv
theorem wgT (s1 : (List Band)) (r : Int) (h : wa9 s1 = some r) : PureFn Tryd.prog G 113 [.d (.imm 2 (wab Band.pd s1)), .d (.fn (.func 103))] (.d (.int .i64 r)) := by
 unfold wa9 at h
 refine pf Tryd.func113 Tryd.ntmps113 ?_
 refine sg fun K k => ?_
 refine oo ?_
 refine AOps.nil (k _ ?_)
 refine jm (ι := Unit) [] [] (fun i t => t) (fun i t => t) .inl h ?_ ?_
 ·intro _ hj_2 h
  refine sg fun K k => ?_
  iterate 3 refine oo ?_
  refine AOps.nil (k _ ?_)
  refine AWp.block ?_
  obtain ⟨x_7, hl_4, h2_5⟩ := bind_some hj_2
  refine lp (S := Int) [0, 1, 7] [] (fun i t => (8, .d (.int .i64 i)) :: t) (fun i t => t) hl_4 ?_ ?_; exact sb; clear hl_4
  rintro v1 _ hb_6; unfold wbB at hb_6; try dsimp only at hb_6
  try dsimp only
  refine sg fun K k => ?_
  refine oo ?_
  refine AOps.nil (k _ ?_)
  refine AWp.seq fun _ K_9 => ?_
  refine cd hb_6 (fun hb_6 => ?_) (fun hb_6 => ?_)
  ·refine AWp.skip ?_
   refine K_9 _ ?_
   refine AWp.seq fun _ K_11 => ?_
   refine AWp.block ?_
   refine sg fun K k => ?_
   iterate 2 refine oo ?_
   refine AOps.nil (k _ ?_)
   refine sg fun K k => ?_
   obtain ⟨e1, ⟨f_12, f_13, f_14, f_15⟩, hb_6⟩ := wak hb_6
   iterate 4 refine oo ?_
   refine oo ?_ (by intro K k; simp (disch := omega) only [go_sem, f_14, ↓reduceIte]; exact k)
   obtain ⟨r1, hx_16, hb_6⟩ := bind_some hb_6
   refine clV (wlF e1 _ hx_16) ?_
   refine AOps.nil (k _ ?_)
   refine cd hb_6 (fun hb_6 => ?_) (fun hb_6 => ?_)
   ·refine sg fun K k => ?_
    iterate 2 refine oo ?_
    refine AOps.nil (k _ ?_)
    refine AWp.ret ?_
    refine lx hb_6 fun hx => ?_; cases hx; try dsimp only at h2_5
    cases h2_5; try dsimp only at h
    cases h; exact rt
   ·refine AWp.skip ?_
    refine K_11 _ ?_
    refine AWp.reg ?_
    iterate 2 refine oo ?_
    refine AOps.nil ?_
    exact ln hb_6 sb
  ·refine AWp.exit ?_
   refine lx hb_6 fun hx => ?_; cases hx; try dsimp only at h2_5
   exact ln h2_5 sb
 ·rintro _ h; dsimp only at h ⊢
  refine sg fun K k => ?_
  refine oo ?_
  refine AOps.nil (k _ ?_)
  refine AWp.ret ?_
  cases h; exact rt
end Go.Pv.Tryd

namespace Go.Pv.Tryd
open Go.Proofs Go.Pv
theorem wf2 (s1 : (List Band)) (r : Bool) (h : waS s1 = some r) : PureFn Tryd.prog G 104 [.d (.imm 2 (wab Band.pd s1)), .d (.fn (.func 103))] (.d (.bool r)) := by
 unfold waS at h
 refine pf Tryd.func104 Tryd.ntmps104 ?_
 refine sg fun K k => ?_
 refine oo ?_
 refine AOps.nil (k _ ?_)
 refine sg fun K k => ?_
 iterate 2 refine oo ?_
 obtain ⟨r1, hx_1, h⟩ := bind_some h
 refine clC (wgT s1 _ hx_1) ?_
 iterate 2 refine oo ?_
 refine AOps.nil (k _ ?_)
 refine AWp.ret ?_
 cases h; exact rt
end Go.Pv.Tryd

namespace Go.Pv.Tryd
open Go.Proofs Go.Pv
theorem wmK (k1 : Int) (r1 : Rule) (r : Bool) (h : wdW k1 r1 = some r) : PureFn Tryd.prog G 78 [.d (.int .i64 k1), .d (.agg [(.imm 2 (wab Band.pd r1.Bands)), (.int .i64 r1.Code)])] (.d (.bool r)) := by
 unfold wdW at h
 refine pf Tryd.func78 Tryd.ntmps78 ?_
 refine sg fun K k => ?_
 iterate 2 refine oo ?_
 refine AOps.nil (k _ ?_)
 refine sg fun K k => ?_
 refine oo ?_
 refine AOps.nil (k _ ?_)
 refine sg fun K k => ?_
 iterate 6 refine oo ?_
 refine ct 4 [3, 5] [1000] (fun  t => (15, .d (.bool ((decide ((r1.Bands.length : Int) = k1)) && (decide (0 ≤ r1.Code))))) :: t) ?_ ?_
 ·rcases bt (decide ((r1.Bands.length : Int) = k1)) with hg_2 | hg_2
  ·rw [hg_2]
   iterate 4 refine oo ?_
   refine AOps.nil ?_
   exact sb
  ·rw [hg_2]
   iterate 4 refine oo ?_
   refine AOps.nil ?_
   exact sb
 refine oo ?_
 refine ct 4 [3, 5] [1000] (fun  t => (20, .d (.bool (((decide ((r1.Bands.length : Int) = k1)) && (decide (0 ≤ r1.Code))) && (decide (r1.Code ≤ 99))))) :: t) ?_ ?_
 ·rcases bt ((decide ((r1.Bands.length : Int) = k1)) && (decide (0 ≤ r1.Code))) with hg_4 | hg_4
  ·rw [hg_4]
   iterate 4 refine oo ?_
   refine AOps.nil ?_
   exact sb
  ·rw [hg_4]
   iterate 4 refine oo ?_
   refine AOps.nil ?_
   exact sb
 refine oo ?_
 obtain ⟨b1, hc_5, h⟩ := bind_some h
 refine ct 6 [] [] (fun  t => (27, .d (.bool b1)) :: t) ?_ ?_
 ·rcases bt (((decide ((r1.Bands.length : Int) = k1)) && (decide (0 ≤ r1.Code))) && (decide (r1.Code ≤ 99))) with hg_7 | hg_7
  ·rw [hg_7]
   rw [hg_7, cond_true] at hc_5
   iterate 3 refine oo ?_
   obtain ⟨r2, hx_6, hc_5⟩ := bind_some hc_5
   refine clC (wf2 r1.Bands _ hx_6) ?_
   iterate 2 refine oo ?_
   refine AOps.nil ?_
   cases hc_5
   exact sb
  ·rw [hg_7]
   rw [hg_7, cond_false] at hc_5
   iterate 6 refine oo ?_
   refine AOps.nil ?_
   cases hc_5
   exact sb
 refine oo ?_
 refine AOps.nil (k _ ?_)
 refine AWp.ret ?_
 cases h; exact rt
end Go.Pv.Tryd

namespace Go.Pv.Tryd
open Go.Proofs Go.Pv
theorem wiI (r1 : Rule) (k1 : Int) (r : Bool) (h : wbZ r1 k1 = some r) : PureFn Tryd.prog G 77 [.d (.agg [(.imm 2 (wab Band.pd r1.Bands)), (.int .i64 r1.Code)]), .dptr 1 [(.int .i64 k1)] 0 0] (.d (.bool r)) := by
 unfold wbZ at h
 refine pf Tryd.func77 Tryd.ntmps77 ?_
 refine sg fun K k => ?_
 iterate 2 refine oo ?_
 refine AOps.nil (k _ ?_)
 refine sg fun K k => ?_
 iterate 2 refine oo ?_
 obtain ⟨r2, hx_1, h⟩ := bind_some h
 refine cl (wmK k1 r1 _ hx_1) ?_
 iterate 2 refine oo ?_
 refine AOps.nil (k _ ?_)
 refine AWp.ret ?_
 cases h; exact rt
end Go.Pv.Tryd

namespace Go.Pv.Tryd
open Go.Proofs Go.Pv
theorem whl (s1 : (List Rule)) (f1 : Int) (r : Int) (h : wbn s1 f1 = some r) : PureFn Tryd.prog G 99 [.d (.imm 2 (wab Rule.pd s1)), .func (.func 77) [.dptr 1 [(.int .i64 f1)] 0 0]] (.d (.int .i64 r)) := by
 unfold wbn at h
 refine pf Tryd.func99 Tryd.ntmps99 ?_
 refine sg fun K k => ?_
 refine oo ?_
 refine AOps.nil (k _ ?_)
 refine jm (ι := Unit) [] [] (fun i t => t) (fun i t => t) .inl h ?_ ?_
 ·intro _ hj_2 h
  refine sg fun K k => ?_
  iterate 3 refine oo ?_
  refine AOps.nil (k _ ?_)
  refine AWp.block ?_
  obtain ⟨x_7, hl_4, h2_5⟩ := bind_some hj_2
  refine lp (S := Int) [0, 1, 7] [] (fun i t => (8, .d (.int .i64 i)) :: t) (fun i t => t) hl_4 ?_ ?_; exact sb; clear hl_4
  rintro v1 _ hb_6; unfold wbO at hb_6; try dsimp only at hb_6
  try dsimp only
  refine sg fun K k => ?_
  refine oo ?_
  refine AOps.nil (k _ ?_)
  refine AWp.seq fun _ K_9 => ?_
  refine cd hb_6 (fun hb_6 => ?_) (fun hb_6 => ?_)
  ·refine AWp.skip ?_
   refine K_9 _ ?_
   refine AWp.seq fun _ K_11 => ?_
   refine AWp.block ?_
   refine sg fun K k => ?_
   iterate 2 refine oo ?_
   refine AOps.nil (k _ ?_)
   refine sg fun K k => ?_
   obtain ⟨e1, ⟨f_12, f_13, f_14, f_15⟩, hb_6⟩ := wak hb_6
   iterate 4 refine oo ?_
   refine oo ?_ (by intro K k; simp (disch := omega) only [go_sem, f_14, ↓reduceIte]; exact k)
   obtain ⟨r1, hx_16, hb_6⟩ := bind_some hb_6
   refine clC (wiI e1 f1 _ hx_16) ?_
   refine AOps.nil (k _ ?_)
   refine cd hb_6 (fun hb_6 => ?_) (fun hb_6 => ?_)
   ·refine sg fun K k => ?_
    iterate 2 refine oo ?_
    refine AOps.nil (k _ ?_)
    refine AWp.ret ?_
    refine lx hb_6 fun hx => ?_; cases hx; try dsimp only at h2_5
    cases h2_5; try dsimp only at h
    cases h; exact rt
   ·refine AWp.skip ?_
    refine K_11 _ ?_
    refine AWp.reg ?_
    iterate 2 refine oo ?_
    refine AOps.nil ?_
    exact ln hb_6 sb
  ·refine AWp.exit ?_
   refine lx hb_6 fun hx => ?_; cases hx; try dsimp only at h2_5
   exact ln h2_5 sb
 ·rintro _ h; dsimp only at h ⊢
  refine sg fun K k => ?_
  refine oo ?_
  refine AOps.nil (k _ ?_)
  refine AWp.ret ?_
  cases h; exact rt
end Go.Pv.Tryd

namespace Go.Pv.Tryd
open Go.Proofs Go.Pv
theorem wgv (s1 : (List Rule)) (f1 : Int) (r : Bool) (h : waO s1 f1 = some r) : PureFn Tryd.prog G 76 [.d (.imm 2 (wab Rule.pd s1)), .func (.func 77) [.dptr 1 [(.int .i64 f1)] 0 0]] (.d (.bool r)) := by
 unfold waO at h
 refine pf Tryd.func76 Tryd.ntmps76 ?_
 refine sg fun K k => ?_
 refine oo ?_
 refine AOps.nil (k _ ?_)
 refine sg fun K k => ?_
 iterate 2 refine oo ?_
 obtain ⟨r1, hx_1, h⟩ := bind_some h
 refine clC (whl s1 f1 _ hx_1) ?_
 iterate 2 refine oo ?_
 refine AOps.nil (k _ ?_)
 refine AWp.ret ?_
 cases h; exact rt
end Go.Pv.Tryd

namespace Go.Pv.Tryd
open Go.Proofs Go.Pv
theorem wdn (k1 : Int) (ts1 : (List (List Rule))) (r : Int) (h : wbr k1 ts1 = some r) : PureFn Tryd.prog G 47 [.d (.int .i64 k1), .d (.imm 1 (wab (wdj 2 Rule.pd) ts1))] (.d (.int .i64 r)) := by
 unfold wbr at h
 refine pf Tryd.func47 Tryd.ntmps47 ?_
 refine sg fun K k => ?_
 iterate 2 refine oo ?_
 refine AOps.nil (k _ ?_)
 refine AWp.seq fun _ K_1 => ?_
 refine sg fun K k => ?_
 refine oo ?_
 obtain ⟨r1, hx_2, h⟩ := bind_some h
 refine cl (wh2 k1 _ hx_2) ?_
 refine oo ?_
 refine AOps.nil (k _ ?_)
 refine cd h (fun h => ?_) (fun h => ?_)
 ·refine sg fun K k => ?_
  refine oo ?_
  refine AOps.nil (k _ ?_)
  refine AWp.ret ?_
  cases h; exact rt
 ·refine AWp.skip ?_
  refine K_1 _ ?_
  refine jm (ι := Unit) [] [] (fun i t => t) (fun i t => t) .inl h ?_ ?_
  ·intro _ hj_5 h
   refine sg fun K k => ?_
   iterate 3 refine oo ?_
   refine AOps.nil (k _ ?_)
   refine AWp.block ?_
   obtain ⟨x_10, hl_7, h2_8⟩ := bind_some hj_5
   refine lp (S := Int) [10, 11] [] (fun i t => (2, .dptr 1 [(.int .i64 k1)] 0 0) :: (12, .d (.int .i64 i)) :: t) (fun i t => t) hl_7 ?_ ?_; exact sc; clear hl_7
   rintro v1 _ hb_9; unfold wbK at hb_9; try dsimp only at hb_9
   try dsimp only
   refine sg fun K k => ?_
   refine oo ?_
   refine AOps.nil (k _ ?_)
   refine AWp.seq fun _ K_12 => ?_
   refine cd hb_9 (fun hb_9 => ?_) (fun hb_9 => ?_)
   ·refine AWp.skip ?_
    refine K_12 _ ?_
    refine AWp.seq fun _ K_14 => ?_
    refine AWp.block ?_
    refine sg fun K k => ?_
    obtain ⟨e1, ⟨f_15, f_16, f_17, f_18⟩, hb_9⟩ := wak hb_9
    refine oo ?_
    refine oo ?_ (by intro K k; simp (disch := omega) only [go_sem, f_17, ↓reduceIte]; exact k)
    refine oo ?_
    refine AOps.nil (k _ ?_)
    refine AWp.seq fun _ K_19 => ?_
    refine sg fun K k => ?_
    iterate 3 refine oo ?_
    refine AOps.nil (k _ ?_)
    refine cd hb_9 (fun hb_9 => ?_) (fun hb_9 => ?_)
    ·refine sg fun K k => ?_
     refine oo ?_
     refine AOps.nil (k _ ?_)
     refine AWp.ret ?_
     refine lx hb_9 fun hx => ?_; cases hx; try dsimp only at h2_8
     cases h2_8; try dsimp only at h
     cases h; exact rt
    ·refine AWp.skip ?_
     refine K_19 _ ?_
     refine sg fun K k => ?_
     iterate 2 refine oo ?_
     obtain ⟨r2, hx_21, hb_9⟩ := bind_some hb_9
     refine clC (wgv e1 k1 _ hx_21) ?_
     refine AOps.nil (k _ ?_)
     refine cd hb_9 (fun hb_9 => ?_) (fun hb_9 => ?_)
     ·refine sg fun K k => ?_
      refine oo ?_
      refine AOps.nil (k _ ?_)
      refine AWp.ret ?_
      refine lx hb_9 fun hx => ?_; cases hx; try dsimp only at h2_8
      cases h2_8; try dsimp only at h
      cases h; exact rt
     ·refine AWp.skip ?_
      refine K_14 _ ?_
      refine AWp.reg ?_
      iterate 2 refine oo ?_
      refine AOps.nil ?_
      exact ln hb_9 sb
   ·refine AWp.exit ?_
    refine lx hb_9 fun hx => ?_; cases hx; try dsimp only at h2_8
    exact ln h2_8 sb
  ·rintro _ h; dsimp only at h ⊢
   refine sg fun K k => ?_
   refine oo ?_
   refine AOps.nil (k _ ?_)
   refine AWp.ret ?_
   cases h; exact rt
end Go.Pv.Tryd

namespace Go.Pv.Tryd
open Go.Proofs Go.Pv
theorem wdT (t1 : (List Rule)) (r : Int) (h : wb1 t1 = some r) : PureFn Tryd.prog G 58 [.d (.imm 2 (wab Rule.pd t1))] (.d (.int .u32 r)) := by
 unfold wb1 at h
 refine pf Tryd.func58 Tryd.ntmps58 ?_
 refine sg fun K k => ?_
 refine oo ?_
 refine AOps.nil (k _ ?_)
 refine sg fun K k => ?_
 obtain ⟨hg_1, h⟩ := wai h
 iterate 5 refine oo ?_
 refine AOps.nil (k _ ?_)
 refine AWp.ret ?_
 cases h; exact rt
end Go.Pv.Tryd

namespace Go.Proofs
open Go.Shelf
def Tryd.lays189_ren : Go.Shelf.Ren := ⟨fun | 189 => 105 | 125 => 115 | 257 => 114 | 128 => 127 | 129 => 128 | 294 => 118 | 295 => 119 | 296 => 120 | 297 => 121 | 298 => 122 | 299 => 123 | 216 => 124 | 300 => 125 | 301 => 126 | 328 => 131 | 329 => 132 | 330 => 133 | 331 => 134 | 332 => 135 | 215 => 136 | 343 => 141 | n => n, fun | 28 => 26 | 3 => 3 | 46 => 159 | 0 => 0 | 51 => 94 | 53 => 170 | 4 => 4 | 183 => 163 | 182 => 162 | 131 => 130 | 5 => 5 | 9 => 9 | 218 => 174 | 222 => 178 | 228 => 184 | 229 => 185 | n => n, fun | n => n⟩
theorem Tryd.lays189 : Go.Proofs.Lays.n189 Tryd.prog Tryd.lays189_ren := {
 mixed := by kernel_rfl
 f125 := Tryd.func115.trans (congrArg some (by kernel_rfl))
 f128 := Tryd.func127.trans (congrArg some (by kernel_rfl))
 f129 := Tryd.func128.trans (congrArg some (by kernel_rfl))
 f189 := Tryd.func105.trans (congrArg some (by kernel_rfl))
 f215 := Tryd.func136.trans (congrArg some (by kernel_rfl))
 f216 := Tryd.func124.trans (congrArg some (by kernel_rfl))
 f257 := Tryd.func114.trans (congrArg some (by kernel_rfl))
 f294 := Tryd.func118.trans (congrArg some (by kernel_rfl))
 f295 := Tryd.func119.trans (congrArg some (by kernel_rfl))
 f296 := Tryd.func120.trans (congrArg some (by kernel_rfl))
 f297 := Tryd.func121.trans (congrArg some (by kernel_rfl))
 f298 := Tryd.func122.trans (congrArg some (by kernel_rfl))
 f299 := Tryd.func123.trans (congrArg some (by kernel_rfl))
 f300 := Tryd.func125.trans (congrArg some (by kernel_rfl))
 f301 := Tryd.func126.trans (congrArg some (by kernel_rfl))
 f328 := Tryd.func131.trans (congrArg some (by kernel_rfl))
 f329 := Tryd.func132.trans (congrArg some (by kernel_rfl))
 f330 := Tryd.func133.trans (congrArg some (by kernel_rfl))
 f331 := Tryd.func134.trans (congrArg some (by kernel_rfl))
 f332 := Tryd.func135.trans (congrArg some (by kernel_rfl))
 f343 := Tryd.func141.trans (congrArg some (by kernel_rfl))
 t0 := Tryd.underlying0
 a0 := Tryd.isAgg0
 z0 := Tryd.sizeOf0
 v0 := Tryd.zeroValue0
 t3 := Tryd.underlying3
 a3 := Tryd.isAgg3
 z3 := Tryd.sizeOf3
 v3 := Tryd.zeroValue3
 t4 := Tryd.underlying4
 a4 := Tryd.isAgg4
 z4 := Tryd.sizeOf4
 v4 := Tryd.zeroValue4
 t5 := Tryd.underlying5
 a5 := Tryd.isAgg5
 z5 := Tryd.sizeOf5
 v5 := Tryd.zeroValue5
 t9 := Tryd.underlying9
 a9 := Tryd.isAgg9
 z9 := Tryd.sizeOf9
 v9 := Tryd.zeroValue9
 t28 := Tryd.underlying26
 a28 := Tryd.isAgg26
 z28 := Tryd.sizeOf26
 v28 := Tryd.zeroValue26
 t46 := Tryd.underlying159
 a46 := Tryd.isAgg159
 z46 := Tryd.sizeOf159
 v46 := Tryd.zeroValue159
 t51 := Tryd.underlying94
 a51 := Tryd.isAgg94
 z51 := Tryd.sizeOf94
 v51 := Tryd.zeroValue94
 t53 := Tryd.underlying170
 a53 := Tryd.isAgg170
 z53 := Tryd.sizeOf170
 v53 := Tryd.zeroValue170
 t131 := Tryd.underlying130
 a131 := Tryd.isAgg130
 z131 := Tryd.sizeOf130
 v131 := Tryd.zeroValue130
 t182 := Tryd.underlying162
 a182 := Tryd.isAgg162
 z182 := Tryd.sizeOf162
 v182 := Tryd.zeroValue162
 t183 := Tryd.underlying163
 a183 := Tryd.isAgg163
 z183 := Tryd.sizeOf163
 v183 := Tryd.zeroValue163
 t218 := Tryd.underlying174
 a218 := Tryd.isAgg174
 z218 := Tryd.sizeOf174
 v218 := Tryd.zeroValue174
 t222 := Tryd.underlying178
 a222 := Tryd.isAgg178
 z222 := Tryd.sizeOf178
 v222 := Tryd.zeroValue178
 t228 := Tryd.underlying184
 a228 := Tryd.isAgg184
 z228 := Tryd.sizeOf184
 v228 := Tryd.zeroValue184
 t229 := Tryd.underlying185
 a229 := Tryd.isAgg185
 z229 := Tryd.sizeOf185
 v229 := Tryd.zeroValue185 }
open Go.Sort Go.RowKit in
theorem Tryd.slices_Sort_int (blk off cap : Nat) (zs : List Int) (w : World) (hH : Holds (Value.int .i64) w blk off zs.toArray) (hblk : blk < w.heap.size) (hsz : zs.length < 4611686018427387904) :
  Calls Tryd.prog 105 #[.slice (some ⟨blk, off, none⟩) zs.length cap] w fun e w' =>
   e = .returned (.tuple #[]) ∧ ∃ n os, w' = grow (putRow (Value.int .i64) (Sort.ahead w n) blk off (zs.mergeSort fun x y => decide (x ≤ y)).toArray) os := Any.slices_Sort_int Tryd.lays189 blk off cap zs w hH hblk hsz
def Tryd.laysNm220_ren : Go.Shelf.Ren := ⟨fun | 20 => 106 | n => n, fun | 22 => 26 | 3 => 3 | 4 => 4 | 0 => 0 | n => n, fun | n => n⟩
theorem Tryd.laysNm220 : Go.Proofs.Lays2.n20 Tryd.prog Tryd.laysNm220_ren := {
 mixed := by kernel_rfl
 f20 := Tryd.func106.trans (congrArg some (by kernel_rfl))
 t0 := Tryd.underlying0
 a0 := Tryd.isAgg0
 z0 := Tryd.sizeOf0
 v0 := Tryd.zeroValue0
 t3 := Tryd.underlying3
 a3 := Tryd.isAgg3
 z3 := Tryd.sizeOf3
 v3 := Tryd.zeroValue3
 t4 := Tryd.underlying4
 a4 := Tryd.isAgg4
 z4 := Tryd.sizeOf4
 v4 := Tryd.zeroValue4
 t22 := Tryd.underlying26
 a22 := Tryd.isAgg26
 z22 := Tryd.sizeOf26
 v22 := Tryd.zeroValue26
 i3 := by kernel_rfl }
open Go.RowKit Go.Lib Go.Sort in
theorem Tryd.slices_Compact_int (blk off cap : Nat) (zs : List Int) (w : World) (hH : Holds (Value.int .i64) w blk off zs.toArray) (hsz : zs.length ≤ 9223372036854775807) (hcap : zs.length ≤ cap) :
  Calls Tryd.prog 106 #[.slice (some ⟨blk, off, none⟩) zs.length cap] w fun e w' => e = .returned (.slice (some ⟨blk, off, none⟩) (Lib.compact zs).length cap) ∧ ∃ q, w' = putRow (Value.int .i64) (Sort.ahead w q) blk off (Lib.compact zs ++ List.replicate (zs.length - (Lib.compact zs).length) 0).toArray := Any.slices_Compact_int Tryd.laysNm220 blk off cap zs w hH hsz hcap
open Go.RowKit Go.Lib Go.Sort in
theorem Tryd.slices_Compact_int_empty (a : Option Addr) (cap : Nat) (w : World) :
  Calls Tryd.prog 106 #[.slice a 0 cap] w fun e w' => e = .returned (.slice a 0 cap) ∧ w' = w := Any.slices_Compact_int_empty Tryd.laysNm220 a cap w
open Go.RowKit Go.Sort in
theorem Tryd.slices_Sort_int_none (p : Option Addr) (cap : Nat) (w : World) :
  Calls Tryd.prog 105 #[.slice p 0 cap] w fun e w' => e = .returned (.tuple #[]) ∧ w' = w := Any.slices_Sort_int_none Tryd.lays189 p cap w
end Go.Proofs

namespace Go.Pv
open Go.Lib Go.Sort
theorem wjL (d : Array Int) : ∀ m : Nat, (compactUpTo d m).length ≤ m
 | 0 => by simp [compactUpTo]
 | m + 1 => by
  rw [compactUpTo_succ, List.length_append]
  have := wjL d m
  split <;> simp <;> omega
theorem wjl (l : List Int) : (compactI l).length ≤ l.length := by unfold compactI compact; exact wjL _ _
theorem wfw (l : List Int) : (waJ l).length = l.length := by
 have := wjl l
 unfold waJ; simp; omega
theorem wqP (w : World) (ok : Nat → Prop) (x : Int) : RepD w ok (.int .i64 x) (.int .i64 x) := .int .i64 x
theorem wr0 (w : World) (X : Nat → Prop) (φ : Nm) (H : wac) (v : Value) (x : Int) (h : RepV w X φ H v (.d (.int .i64 x))) : v = .int .i64 x := by cases h with | d h => cases h; rfl
namespace Tryd
open Go.Proofs
theorem wqQ {vs : List Value} {p : PV} (h : vs.length = [p].length) : ∃ v, vs = [v] := by
 match vs, h with
 | [v], _ => exact ⟨v, rfl⟩
theorem wr1 (L : List Int) (hL : L.length ≤ 4294967296) : HandFn Tryd.prog G 105 [.slc 0 0 L.length] 0 3 1 (wab (PD.int .i64) L) (.tuple []) (wab (PD.int .i64) (sortI L)) := by
 intro B φ vs h0 h1 h2 h3
 obtain ⟨v, rfl⟩ := wqQ h1
 have hv : RepV B.w0 B.X φ [(0, ⟨3, 1, dl (wab (PD.int .i64) L)⟩)] v (.slc 0 0 L.length) := h2 0 (by simp)
 have hlen : (wab (PD.int .i64) (sortI L)).length = (wab (PD.int .i64) L).length := by simp [wab, sortI_length]
 generalize hn : L.length = n at hv
 cases hv with
 | slc hx hb hk1 h4 h5 h6 h7 =>
  rename_i cap b x
  obtain ⟨_, rfl⟩ := we4 hx
  obtain ⟨hH, hlt⟩ := h3.holds (enc := Value.int .i64) (pd := PD.int .i64) wr0 (fun _ => rfl) hb
  have hc := Tryd.slices_Sort_int b 0 cap L B.w0 hH hlt (by omega)
  rw [hn] at hc
  have e0 : (0 : Nat) * (⟨3, 1, dl (wab (PD.int .i64) L)⟩ : Row).k = 0 := Nat.zero_mul _
  rw [e0]
  refine (callsIn_wide.2 hc).mono ?_
  rintro e w' ⟨rfl, m, os, rfl⟩
  refine ⟨_, .tuple [], [(0, ⟨3, 1, dl (wab (PD.int .i64) (sortI L))⟩)], none, φ, rfl, ⟨rfl, rfl, hlen⟩, .tuple rfl (fun i hi => by simp at hi), ?_⟩
  have := h3.putRow (enc := Value.int .i64) (pd := PD.int .i64) (L' := sortI L) wqP (fun _ => rfl) h0 (sortI_length L) hb m os
  unfold sortI at this ⊢
  exact this
 | slc0 hx hb hk1 hp =>
  rename_i x p
  have hL0 : L = [] := List.length_eq_zero_iff.1 hn
  subst hL0
  refine (callsIn_wide.2 (Tryd.slices_Sort_int_none p 0 B.w0)).mono ?_
  rintro e w' ⟨rfl, rfl⟩
  have e1 : sortI [] = [] := List.length_eq_zero_iff.1 (by rw [sortI_length]; rfl)
  refine ⟨_, .tuple [], [(0, ⟨3, 1, dl (wab (PD.int .i64) (sortI []))⟩)], none, φ, rfl, ⟨rfl, rfl, hlen⟩, .tuple rfl (fun i hi => by simp at hi), ?_⟩
  rw [e1]; exact h3
theorem wp6 (L : List Int) (hL : L.length ≤ 4294967296) : HandFn Tryd.prog G 106 [.slc 0 0 L.length] 0 3 1 (wab (PD.int .i64) L) (.slc 0 0 (compactI L).length) (wab (PD.int .i64) (waJ L)) := by
 intro B φ vs h0 h1 h2 h3
 obtain ⟨v, rfl⟩ := wqQ h1
 have hv : RepV B.w0 B.X φ [(0, ⟨3, 1, dl (wab (PD.int .i64) L)⟩)] v (.slc 0 0 L.length) := h2 0 (by simp)
 have hlen : (wab (PD.int .i64) (waJ L)).length = (wab (PD.int .i64) L).length := by simp [wab, wfw]
 have hle := wjl L
 generalize hn : L.length = n at hv
 cases hv with
 | slc hx hb hk1 h4 h5 h6 h7 =>
  rename_i cap b x
  obtain ⟨_, rfl⟩ := we4 hx
  obtain ⟨hH, hlt⟩ := h3.holds (enc := Value.int .i64) (pd := PD.int .i64) wr0 (fun _ => rfl) hb
  have hc := Tryd.slices_Compact_int b 0 cap L B.w0 hH (by omega) (by omega)
  rw [hn] at hc
  have e0 : (0 : Nat) * (⟨3, 1, dl (wab (PD.int .i64) L)⟩ : Row).k = 0 := Nat.zero_mul _
  rw [e0]
  refine (callsIn_wide.2 hc).mono ?_
  rintro e w' ⟨rfl, m, rfl⟩
  have hs := h3.putRow (enc := Value.int .i64) (pd := PD.int .i64) (L' := waJ L) wqP (fun _ => rfl) h0 (wfw L) hb m #[]
  have eg : ∀ w : World, grow w #[] = w := fun w => by simp [grow]
  rw [eg] at hs
  have hx' : waa ([(0, ⟨3, 1, dl (wab (PD.int .i64) (waJ L))⟩)] : wac) 0 = some ⟨3, 1, dl (wab (PD.int .i64) (waJ L))⟩ := rfl
  have hll : (dl (wab (PD.int .i64) (waJ L))).length = L.length := by simp [dl, wab, wfw]
  have hll0 : (dl (wab (PD.int .i64) L)).length = L.length := by simp [dl, wab]
  dsimp only at h4 h6 h7
  rw [hll0] at h4 h6
  refine ⟨_, .slc 0 0 (compactI L).length, [(0, ⟨3, 1, dl (wab (PD.int .i64) (waJ L))⟩)], none, φ, rfl, ⟨rfl, rfl, hlen⟩, ?_, ?_⟩
  ·have hr : RepV (Sort.putRow (Value.int .i64) (Sort.ahead B.w0 m) b 0 (waJ L).toArray) B.X φ [(0, ⟨3, 1, dl (wab (PD.int .i64) (waJ L))⟩)] (.slice (some ⟨b, 0 * (⟨3, 1, dl (wab (PD.int .i64) (waJ L))⟩ : Row).k, none⟩) (compactI L).length cap) (.slc 0 0 (compactI L).length) :=
    .slc hx' hb (Nat.le_refl 1) (by dsimp only; rw [hll]; omega) (by omega) (by dsimp only; rw [hll]; omega) (fun c e f hh => by
     rw [wjb, if_pos rfl] at hh
     obtain ⟨ob, ho1, ho2⟩ := Option.map_eq_some_iff.1 hh
     cases ob with
     | cells c0 e0 f0 =>
      simp only [onCells, Obj.cells.injEq] at ho2
      have := h7 c0 e0 f0 ho1
      rw [← ho2.1]
      simpa [putCells] using this
     | _ => simp [onCells] at ho2)
   rw [Nat.zero_mul] at hr
   unfold waJ compactI at hr ⊢
   rw [hn] at hr ⊢
   exact hr
  ·unfold waJ compactI at hs ⊢
   rw [hn] at hs ⊢
   exact hs
 | slc0 hx hb hk1 hp =>
  rename_i x p
  have hL0 : L = [] := List.length_eq_zero_iff.1 hn
  subst hL0
  refine (callsIn_wide.2 (Tryd.slices_Compact_int_empty p 0 B.w0)).mono ?_
  rintro e w' ⟨rfl, rfl⟩
  have e1 : waJ [] = [] := List.length_eq_zero_iff.1 (by rw [wfw]; rfl)
  have e2 : (compactI []).length = 0 := by have := wjl []; simp at this; simp [this]
  refine ⟨_, .slc 0 0 (compactI []).length, [(0, ⟨3, 1, dl (wab (PD.int .i64) (waJ []))⟩)], none, φ, rfl, ⟨rfl, rfl, hlen⟩, ?_, ?_⟩
  ·rw [e1, e2]; exact .slc0 hx hb hk1 hp
  ·rw [e1]; exact h3
end Tryd
end Go.Pv

namespace Go.Pv.Tryd
open Go.Proofs Go.Pv
theorem wfc (mark1 : Int) (ts1 : (List (List Rule))) (r : (List Int)) (h : wa6 mark1 ts1 = some r) : PureFn Tryd.prog G 81 [.d (.int .i64 mark1), .d (.imm 1 (wab (wdj 2 Rule.pd) ts1))] (.d (.imm 1 (wab (PD.int .i64) r))) := by
 unfold wa6 at h
 refine pf Tryd.func81 Tryd.ntmps81 ?_
 refine sg fun K k => ?_
 refine oo ?_
 refine AOps.nil (k _ ?_)
 refine sg fun K k => ?_
 iterate 2 refine oo ?_
 refine AOps.nil (k _ ?_)
 refine jn (α := (List Int)) [] [] (fun i t => (5, .slc 1000 0 i.length) :: t) (fun i t => (1000, ⟨3, 1, dl (wab (PD.int .i64) i)⟩) :: t) h ?_ ?_
 ·intro _ hj_2
  refine sg fun K k => ?_
  iterate 3 refine oo ?_
  refine AOps.nil (k _ ?_)
  refine AWp.block ?_
  obtain ⟨x_7, hl_4, h2_5⟩ := bind_some hj_2
  refine lp (S := (Int × (List Int))) [0, 11, 12] [] (fun i t => (5, .slc 1000 0 i.2.length) :: (13, .d (.int .i64 i.1)) :: t) (fun i t => (1000, ⟨3, 1, dl (wab (PD.int .i64) i.2)⟩) :: t) hl_4 ?_ ?_; exact sb; clear hl_4
  rintro ⟨v1, L2⟩ _ hb_6; unfold wcN at hb_6; try dsimp only at hb_6
  try dsimp only
  refine sg fun K k => ?_
  refine oo ?_
  refine AOps.nil (k _ ?_)
  refine AWp.seq fun _ K_9 => ?_
  refine cd hb_6 (fun hb_6 => ?_) (fun hb_6 => ?_)
  ·refine AWp.skip ?_
   refine K_9 _ ?_
   refine jn (α := (List Int)) [0, 11, 12, 13] [] (fun i t => (5, .slc 1000 0 i.length) :: t) (fun i t => (1000, ⟨3, 1, dl (wab (PD.int .i64) i)⟩) :: t) hb_6 ?_ ?_
   ·intro _ hj_12
    refine AWp.block ?_
    refine sg fun K k => ?_
    obtain ⟨e1, ⟨f_13, f_14, f_15, f_16⟩, hj_12⟩ := wak hj_12
    refine oo ?_
    refine oo ?_ (by intro K k; simp (disch := omega) only [go_sem, f_15, ↓reduceIte]; exact k)
    refine oo ?_
    refine AOps.nil (k _ ?_)
    refine sg fun K k => ?_
    iterate 3 refine oo ?_
    refine AOps.nil (k _ ?_)
    refine AWp.block ?_
    obtain ⟨x_21, hl_18, h2_19⟩ := bind_some hj_12
    refine lp (S := (Int × (List Int))) [0, 11, 12, 13, 17, 18] [] (fun i t => (5, .slc 1000 0 i.2.length) :: (19, .d (.int .i64 i.1)) :: t) (fun i t => (1000, ⟨3, 1, dl (wab (PD.int .i64) i.2)⟩) :: t) hl_18 ?_ ?_; exact sb; clear hl_18
    rintro ⟨v2, L4⟩ _ hb_20; unfold wcM at hb_20; try dsimp only at hb_20
    try dsimp only
    refine sg fun K k => ?_
    refine oo ?_
    refine AOps.nil (k _ ?_)
    refine AWp.seq fun _ K_23 => ?_
    refine cd hb_20 (fun hb_20 => ?_) (fun hb_20 => ?_)
    ·refine AWp.skip ?_
     refine K_23 _ ?_
     refine AWp.seq fun _ K_25 => ?_
     refine AWp.block ?_
     refine sg fun K k => ?_
     obtain ⟨e2, ⟨f_26, f_27, f_28, f_29⟩, hb_20⟩ := wak hb_20
     refine oo ?_
     refine oo ?_ (by intro K k; simp (disch := omega) only [go_sem, f_28, ↓reduceIte]; exact k)
     iterate 2 refine oo ?_
     refine AOps.nil (k _ ?_)
     refine AWp.draw mo [] trivial ?_
     obtain ⟨e3, ⟨f_30, f_31, f_32, f_33⟩, hb_20⟩ := wak hb_20
     iterate 6 refine dd ?_
     refine dd ?_ (by intro K k; simp (disch := omega) only [go_sem, f_32, ↓reduceIte]; exact k)
     iterate 5 refine dd ?_
     refine dd ?_ (by intro K k; simp (disch := omega) only [go_sem, f_32, ↓reduceIte]; exact k)
     refine ddl ?_
     refine DOps.stop (by kernel_rfl) ?_
     obtain ⟨hg_34, hb_20⟩ := wai hb_20
     iterate 2 refine oo ?_
     refine AOps.nil ?_
     refine K_25 _ ?_
     refine AWp.reg ?_
     iterate 2 refine oo ?_
     refine AOps.nil ?_
     exact ln hb_20 sb
    ·refine AWp.exit ?_
     refine lx hb_20 fun hx => ?_; cases hx; try dsimp only at h2_19
     cases h2_19; exact sb
   ·rintro L3 hb_6; dsimp only at hb_6 ⊢
    refine AWp.reg ?_
    iterate 2 refine oo ?_
    refine AOps.nil ?_
    exact ln hb_6 sb
  ·refine AWp.exit ?_
   refine lx hb_6 fun hx => ?_; cases hx; try dsimp only at h2_5
   cases h2_5; exact sb
 ·rintro L1 h; dsimp only at h ⊢
  refine sg fun K k => ?_
  obtain ⟨hg_35, h⟩ := wai h
  refine oo ?_
  refine clH 1000 (wr1 L1 hg_35) ?_
  refine AOps.nil (k _ ?_)
  refine sg fun K k => ?_
  obtain ⟨hg_36, h⟩ := wai h
  refine oo ?_
  refine clH 1000 (wp6 (sortI L1) hg_36) ?_
  refine AOps.sub (τ := ⟨[(43, .d (.imm 1 (wab (PD.int .i64) (List.take ((compactI (sortI L1)).length) (waJ (sortI L1))))))], [], [], none⟩) sct ?_
  refine oo ?_
  refine AOps.nil (k _ ?_)
  refine jn (α := (List Int)) [] [] (fun i t => (5, .d (.imm 1 (wab (PD.int .i64) i))) :: t) (fun i t => t) h ?_ ?_
  ·intro _ hj_38
   refine sg fun K k => ?_
   obtain ⟨e4, ⟨f_39, f_40, f_41, f_42⟩, hj_38⟩ := wak hj_38
   try simp only [List.length_append, List.length_set, List.length_replicate, List.length_cons, List.length_nil] at f_40 f_42
   try simp only [Int.reduceToNat] at f_41 f_42
   iterate 2 refine oo ?_
   refine oo ?_ (by intro K k; simp (disch := omega) only [go_sem, f_41, ↓reduceIte]; exact k)
   refine oo ?_
   refine AOps.nil (k _ ?_)
   refine cd hj_38 (fun hj_38 => ?_) (fun hj_38 => ?_)
   ·refine AWp.reg ?_
    obtain ⟨hg_44, hj_38⟩ := wai hj_38
    iterate 3 refine oo ?_
    refine AOps.nil ?_
    cases hj_38; exact sb
   ·refine AWp.skip ?_
    cases hj_38; exact sb
  ·rintro out1 h; dsimp only at h ⊢
   refine sg fun K k => ?_
   iterate 2 refine oo ?_
   refine AOps.nil (k _ ?_)
   refine AWp.ret ?_
   cases h; exact rt
end Go.Pv.Tryd

namespace Go.Pv.Tryd
open Go.Proofs Go.Pv
theorem wdz (t1 : (List Rule)) (mark1 : Int) (value1 : Int) (r : Int) (h : wbx t1 mark1 value1 = some r) : PureFn Tryd.prog G 82 [.d (.imm 2 (wab Rule.pd t1)), .d (.int .i64 mark1), .d (.int .i64 value1)] (.d (.int .u32 r)) := by
 unfold wbx at h
 refine pf Tryd.func82 Tryd.ntmps82 ?_
 refine sg fun K k => ?_
 refine oo ?_
 refine AOps.nil (k _ ?_)
 refine sg fun K k => ?_
 refine oo ?_
 refine AOps.nil (k _ ?_)
 refine jn (α := Int) [] [] (fun i t => (7, .d (.int .u32 i)) :: t) (fun i t => t) h ?_ ?_
 ·intro _ hj_2
  refine sg fun K k => ?_
  iterate 3 refine oo ?_
  refine AOps.nil (k _ ?_)
  refine AWp.block ?_
  obtain ⟨x_7, hl_4, h2_5⟩ := bind_some hj_2
  refine lp (S := (Int × Int)) [1, 2, 11, 12] [] (fun i t => (7, .d (.int .u32 i.1)) :: (13, .d (.int .i64 i.2)) :: t) (fun i t => t) hl_4 ?_ ?_; exact sb; clear hl_4
  rintro ⟨out2, v1⟩ _ hb_6; unfold wcO at hb_6; try dsimp only at hb_6
  try dsimp only
  refine sg fun K k => ?_
  refine oo ?_
  refine AOps.nil (k _ ?_)
  refine AWp.seq fun _ K_9 => ?_
  refine cd hb_6 (fun hb_6 => ?_) (fun hb_6 => ?_)
  ·refine AWp.skip ?_
   refine K_9 _ ?_
   refine jn (α := Int) [1, 2, 11, 12, 13] [] (fun i t => (7, .d (.int .u32 i)) :: t) (fun i t => t) hb_6 ?_ ?_
   ·intro _ hj_12
    refine AWp.block ?_
    refine sg fun K k => ?_
    obtain ⟨e1, ⟨f_13, f_14, f_15, f_16⟩, hj_12⟩ := wak hj_12
    iterate 2 refine oo ?_
    refine oo ?_ (by intro K k; simp (disch := omega) only [go_sem, f_15, ↓reduceIte]; exact k)
    iterate 3 refine oo ?_
    refine AOps.nil (k _ ?_)
    refine sg fun K k => ?_
    obtain ⟨e2, ⟨f_17, f_18, f_19, f_20⟩, hj_12⟩ := wak hj_12
    iterate 4 refine oo ?_
    refine oo ?_ (by intro K k; simp (disch := omega) only [go_sem, f_19, ↓reduceIte]; exact k)
    iterate 2 refine oo ?_
    refine AOps.nil (k _ ?_)
    refine sg fun K k => ?_
    iterate 5 refine oo ?_
    refine ct 5 [1, 2, 7, 8, 11, 12, 13] [] (fun  t => (32, .d (.bool ((decide (e2.Lo ≤ value1)) && (decide (value1 < e2.Hi))))) :: t) ?_ ?_
    ·rcases bt (decide (e2.Lo ≤ value1)) with hg_22 | hg_22
     ·rw [hg_22]
      iterate 5 refine oo ?_
      refine AOps.nil ?_
      exact sb
     ·rw [hg_22]
      iterate 5 refine oo ?_
      refine AOps.nil ?_
      exact sb
    refine AOps.nil (k _ ?_)
    refine cd hj_12 (fun hj_12 => ?_) (fun hj_12 => ?_)
    ·refine AWp.reg ?_
     obtain ⟨hg_24, hj_12⟩ := wai hj_12
     iterate 5 refine oo ?_
     refine AOps.nil ?_
     cases hj_12; exact sb
    ·refine AWp.skip ?_
     cases hj_12; exact sb
   ·rintro out3 hb_6; dsimp only at hb_6 ⊢
    refine AWp.reg ?_
    iterate 2 refine oo ?_
    refine AOps.nil ?_
    exact ln hb_6 sb
  ·refine AWp.exit ?_
   refine lx hb_6 fun hx => ?_; cases hx; try dsimp only at h2_5
   cases h2_5; exact sb
 ·rintro out1 h; dsimp only at h ⊢
  refine sg fun K k => ?_
  iterate 2 refine oo ?_
  refine AOps.nil (k _ ?_)
  refine AWp.ret ?_
  cases h; exact rt
end Go.Pv.Tryd

namespace Go.Pv.Tryd
open Go.Proofs Go.Pv
theorem wcg (s1 : Int) (r : Int) (h : waV s1 = some r) : PureFn Tryd.prog G 80 [.d (.int .u32 s1)] (.d (.int .i64 r)) := by
 unfold waV at h
 refine pf Tryd.func80 Tryd.ntmps80 ?_
 refine sg fun K k => ?_
 refine oo ?_
 refine AOps.nil (k _ ?_)
 refine jm (ι := Unit) [] [] (fun i t => t) (fun i t => t) .inl h ?_ ?_
 ·intro _ hj_2 h
  refine sg fun K k => ?_
  refine oo ?_
  refine AOps.nil (k _ ?_)
  refine AWp.block ?_
  obtain ⟨x_7, hl_4, h2_5⟩ := bind_some hj_2
  refine lp (S := Int) [0] [] (fun i t => (4, .d (.int .i64 i)) :: t) (fun i t => t) hl_4 ?_ ?_; exact sb; clear hl_4
  rintro v1 _ hb_6; unfold wbs at hb_6; try dsimp only at hb_6
  try dsimp only
  refine sg fun K k => ?_
  refine oo ?_
  refine AOps.nil (k _ ?_)
  refine AWp.seq fun _ K_9 => ?_
  refine cd hb_6 (fun hb_6 => ?_) (fun hb_6 => ?_)
  ·refine AWp.skip ?_
   refine K_9 _ ?_
   refine AWp.seq fun _ K_11 => ?_
   refine AWp.block ?_
   refine sg fun K k => ?_
   iterate 2 refine oo ?_
   refine AOps.nil (k _ ?_)
   refine sg fun K k => ?_
   obtain ⟨hg_12, hb_6⟩ := wai hb_6
   iterate 5 refine oo ?_
   refine AOps.nil (k _ ?_)
   refine cd hb_6 (fun hb_6 => ?_) (fun hb_6 => ?_)
   ·refine sg fun K k => ?_
    iterate 2 refine oo ?_
    refine AOps.nil (k _ ?_)
    refine AWp.ret ?_
    refine lx hb_6 fun hx => ?_; cases hx; try dsimp only at h2_5
    cases h2_5; try dsimp only at h
    cases h; exact rt
   ·refine AWp.skip ?_
    refine K_11 _ ?_
    refine AWp.reg ?_
    iterate 2 refine oo ?_
    refine AOps.nil ?_
    exact ln hb_6 sb
  ·refine AWp.exit ?_
   refine lx hb_6 fun hx => ?_; cases hx; try dsimp only at h2_5
   exact ln h2_5 sb
 ·rintro _ h; dsimp only at h ⊢
  refine sg fun K k => ?_
  refine oo ?_
  refine AOps.nil (k _ ?_)
  refine AWp.ret ?_
  cases h; exact rt
end Go.Pv.Tryd

namespace Go.Pv.Tryd
open Go.Proofs Go.Pv
set_option maxHeartbeats 4000000 in
theorem wjm (n : Nat) : ∀ (o1 : (List Rule)) (o2 : Int) (m1 : (List (Arr3_Int × (List Int)))) (mark1 : Int) (a1 : Int) (r : ((List Int) × (List (Arr3_Int × (List Int))))) (h : wdk n o1 o2 m1 mark1 a1 = some r), ObjFn Tryd.prog G 93 [.d (.int .i64 mark1), .d (.int .u32 a1), .ptr 0 0 0, .ptr 1 0 0, .ptr 2 0 0, .ptr 3 0 0] [(0, ⟨135, 1, [.mp 4]⟩), (1, ⟨22, 1, [.d (.imm 2 (wab Rule.pd o1))]⟩), (2, ⟨3, 1, [.d (.int .i64 o2)]⟩), (3, ⟨136, 1, [.func (.func 93) [.ptr 0 0 0, .ptr 1 0 0, .ptr 2 0 0, .ptr 3 0 0]]⟩), (4, ⟨135, 0, wam Arr3_Int.pd (wdj 1 (PD.int .i64)) m1⟩)] (.d (.imm 1 (wab (PD.int .i64) r.1))) [(0, ⟨135, 1, [.mp 4]⟩), (1, ⟨22, 1, [.d (.imm 2 (wab Rule.pd o1))]⟩), (2, ⟨3, 1, [.d (.int .i64 o2)]⟩), (3, ⟨136, 1, [.func (.func 93) [.ptr 0 0 0, .ptr 1 0 0, .ptr 2 0 0, .ptr 3 0 0]]⟩), (4, ⟨135, 0, wam Arr3_Int.pd (wdj 1 (PD.int .i64)) r.2⟩)] := by
 induction n with
 | zero => intro o1 o2 m1 mark1 a1 r h; cases h
 | succ n ih =>
  intro o1 o2 m1 mark1 a1 r h
  replace h : wcT (wdk n) o1 o2 m1 mark1 a1 = some r := h
  unfold wcT at h
  refine ObjFn.pf Tryd.func93 Tryd.ntmps93 ?_
  refine sg fun K k => ?_
  refine oo ?_
  refine AOps.nil (k _ ?_)
  refine sg fun K k => ?_
  iterate 6 refine oo ?_
  refine AOps.nil (k _ ?_)
  refine AWp.seq fun _ K_1 => ?_
  refine sg fun K k => ?_
  iterate 2 refine oo ?_
  refine oml (k := (⟨mark1, (IntKind.i64.wrap a1), 0⟩ : Arr3_Int)) (L := m1) (v0 := []) (encV := (wdj 1 (PD.int .i64))) wiW wsS ty26 wtK (fun _ _ => .imm0 _) ?_
  iterate 5 refine oo ?_
  refine AOps.nil (k _ ?_)
  refine sg fun K k => ?_
  refine oo ?_
  refine AOps.nil (k _ ?_)
  refine cd h (fun h => ?_) (fun h => ?_)
  ·refine sg fun K k => ?_
   iterate 2 refine oo ?_
   refine AOps.nil (k _ ?_)
   refine AWp.ret ?_
   cases h; exact rtO
  ·refine AWp.skip ?_
   refine K_1 _ ?_
   refine sg fun K k => ?_
   obtain ⟨hg_3, h⟩ := wai h
   iterate 5 refine oo ?_
   refine AOps.nil (k _ ?_)
   refine sg fun K k => ?_
   refine oo ?_
   refine AOps.nil (k _ ?_)
   refine jn (α := ((List (Arr3_Int × (List Int))) × (List Int))) [2, 9] [1, 2, 3, 1000] (fun i t => (12, .slc 1001 0 i.2.length) :: t) (fun i t => (0, ⟨135, 1, [.mp 4]⟩) :: (4, ⟨135, 0, wam Arr3_Int.pd (wdj 1 (PD.int .i64)) i.1⟩) :: (1001, ⟨3, 1, dl (wab (PD.int .i64) i.2)⟩) :: t) h ?_ ?_
   ·intro _ hj_5
    refine sg fun K k => ?_
    iterate 2 refine oo ?_
    refine ol ?_
    obtain ⟨r1, hx_6, hj_5⟩ := bind_some hj_5
    refine cl (wfc mark1 [o1] _ hx_6) ?_
    iterate 2 refine oo ?_
    refine AOps.nil (k _ ?_)
    refine AWp.block ?_
    obtain ⟨x_11, hl_8, h2_9⟩ := bind_some hj_5
    refine lp (S := (Int × Int × (List (Arr3_Int × (List Int))) × (List Int))) [0, 1, 2, 3, 4, 5, 9, 39, 40] [1, 2, 3, 1000] (fun i t => (12, .slc 1001 0 i.2.2.2.length) :: (13, .d (.int .i64 i.1)) :: (41, .d (.int .i64 i.2.1)) :: t) (fun i t => (0, ⟨135, 1, [.mp 4]⟩) :: (4, ⟨135, 0, wam Arr3_Int.pd (wdj 1 (PD.int .i64)) i.2.2.1⟩) :: (1001, ⟨3, 1, dl (wab (PD.int .i64) i.2.2.2)⟩) :: t) hl_8 ?_ ?_; exact sb; clear hl_8
    rintro ⟨from1, v1, M2, L2⟩ _ hb_10; unfold wdE at hb_10; try dsimp only at hb_10
    try dsimp only
    refine sg fun K k => ?_
    refine oo ?_
    refine AOps.nil (k _ ?_)
    refine AWp.seq fun _ K_13 => ?_
    refine cd hb_10 (fun hb_10 => ?_) (fun hb_10 => ?_)
    ·refine AWp.skip ?_
     refine K_13 _ ?_
     refine jn (α := (Int × (List (Arr3_Int × (List Int))) × (List Int))) [0, 1, 2, 3, 4, 5, 9, 39, 40, 41] [1, 2, 3, 1000] (fun i t => (12, .slc 1001 0 i.2.2.length) :: (13, .d (.int .i64 i.1)) :: t) (fun i t => (0, ⟨135, 1, [.mp 4]⟩) :: (4, ⟨135, 0, wam Arr3_Int.pd (wdj 1 (PD.int .i64)) i.2.1⟩) :: (1001, ⟨3, 1, dl (wab (PD.int .i64) i.2.2)⟩) :: t) hb_10 ?_ ?_
     ·intro _ hj_16
      refine AWp.block ?_
      refine sg fun K k => ?_
      obtain ⟨e1, ⟨f_17, f_18, f_19, f_20⟩, hj_16⟩ := wak hj_16
      refine oo ?_
      refine oo ?_ (by intro K k; simp (disch := omega) only [go_sem, f_19, ↓reduceIte]; exact k)
      refine oo ?_
      refine AOps.nil (k _ ?_)
      refine sg fun K k => ?_
      iterate 4 refine oo ?_
      obtain ⟨r2, hx_21, hj_16⟩ := bind_some hj_16
      refine cl (wdz o1 mark1 from1 _ hx_21) ?_
      iterate 2 refine oo ?_
      refine AOps.nil (k _ ?_)
      refine jn (α := ((List (Arr3_Int × (List Int))) × (List Int))) [0, 1, 2, 3, 4, 5, 9, 15, 39, 40, 41] [1, 2, 3, 1000] (fun i t => (12, .slc 1001 0 i.2.length) :: t) (fun i t => (0, ⟨135, 1, [.mp 4]⟩) :: (4, ⟨135, 0, wam Arr3_Int.pd (wdj 1 (PD.int .i64)) i.1⟩) :: (1001, ⟨3, 1, dl (wab (PD.int .i64) i.2)⟩) :: t) hj_16 ?_ ?_
      ·intro _ hj_23
       refine sg fun K k => ?_
       iterate 4 refine oo ?_
       refine AOps.nil (k _ ?_)
       refine cd hj_23 (fun hj_23 => ?_) (fun hj_23 => ?_)
       ·refine sg fun K k => ?_
        iterate 4 refine oo ?_
        obtain ⟨r3, hx_25, hj_23⟩ := bind_some hj_23
        refine clU [(0, 0), (1, 1), (2, 2), (3, 3), (4, 4)] [] (ih o1 o2 M2 (IntKind.i64.wrap (mark1 + 1)) (IntKind.u32.wrap ↑(BitVec.ofInt IntKind.u32.bits a1 &&& BitVec.ofInt IntKind.u32.bits r2).toNat) _ hx_25) ?_
        iterate 2 refine oo ?_
        refine AOps.nil (k _ ?_)
        refine AWp.block ?_
        obtain ⟨x_30, hl_27, h2_28⟩ := bind_some hj_23
        refine lp (S := (Int × (List Int))) [0, 1, 2, 3, 4, 5, 9, 13, 15, 39, 40, 41, 59, 60] [0, 1, 2, 3, 4, 1000] (fun i t => (12, .slc 1001 0 i.2.length) :: (61, .d (.int .i64 i.1)) :: t) (fun i t => (1001, ⟨3, 1, dl (wab (PD.int .i64) i.2)⟩) :: t) hl_27 ?_ ?_; exact sb; clear hl_27
        rintro ⟨v2, L5⟩ _ hb_29; unfold wdD at hb_29; try dsimp only at hb_29
        try dsimp only
        refine sg fun K k => ?_
        refine oo ?_
        refine AOps.nil (k _ ?_)
        refine AWp.seq fun _ K_32 => ?_
        refine cd hb_29 (fun hb_29 => ?_) (fun hb_29 => ?_)
        ·refine AWp.skip ?_
         refine K_32 _ ?_
         refine AWp.seq fun _ K_34 => ?_
         refine AWp.block ?_
         refine sg fun K k => ?_
         obtain ⟨e2, ⟨f_35, f_36, f_37, f_38⟩, hb_29⟩ := wak hb_29
         iterate 2 refine oo ?_
         refine oo ?_ (by intro K k; simp (disch := omega) only [go_sem, f_37, ↓reduceIte]; exact k)
         iterate 2 refine oo ?_
         refine AOps.nil (k _ ?_)
         refine AWp.reg ?_
         obtain ⟨e3, ⟨f_39, f_40, f_41, f_42⟩, hb_29⟩ := wak hb_29
         iterate 3 refine oo ?_
         refine oo ?_ (by intro K k; simp (disch := omega) only [go_sem, f_41, ↓reduceIte]; exact k)
         iterate 7 refine oo ?_
         refine oo ?_ (by intro K k; simp (disch := omega) only [go_sem, f_41, ↓reduceIte]; exact k)
         refine AOps.nil ?_
         refine K_34 _ ?_
         refine AWp.reg ?_
         iterate 2 refine oo ?_
         refine AOps.nil ?_
         exact ln hb_29 sb
        ·refine AWp.exit ?_
         refine lx hb_29 fun hx => ?_; cases hx; try dsimp only at h2_28
         cases h2_28; exact sb
       ·refine sg fun K k => ?_
        refine oo ?_
        obtain ⟨r4, hx_43, hj_23⟩ := bind_some hj_23
        refine cl (wcg (IntKind.u32.wrap ↑(BitVec.ofInt IntKind.u32.bits a1 &&& BitVec.ofInt IntKind.u32.bits r2).toNat) _ hx_43) ?_
        refine oo ?_
        refine AOps.nil (k _ ?_)
        refine sg fun K k => ?_
        iterate 2 refine oo ?_
        refine AOps.nil (k _ ?_)
        refine cd hj_23 (fun hj_23 => ?_) (fun hj_23 => ?_)
        ·refine AWp.reg ?_
         obtain ⟨e4, ⟨f_45, f_46, f_47, f_48⟩, hj_23⟩ := wak hj_23
         try simp only [Int.toNat_natCast] at f_47 f_48
         iterate 4 refine oo ?_
         refine oo ?_ (by intro K k; simp (disch := omega) only [go_sem, f_47, Int.toNat_natCast, ↓reduceIte]; exact k)
         iterate 5 refine oo ?_
         refine oo ?_ (by intro K k; simp (disch := omega) only [go_sem, f_47, Int.toNat_natCast, ↓reduceIte]; exact k)
         refine AOps.nil ?_
         cases hj_23; exact sb
        ·refine AWp.reg ?_
         obtain ⟨e5, ⟨f_49, f_50, f_51, f_52⟩, hj_23⟩ := wak hj_23
         iterate 3 refine oo ?_
         refine oo ?_ (by intro K k; simp (disch := omega) only [go_sem, f_51, ↓reduceIte]; exact k)
         iterate 5 refine oo ?_
         refine oo ?_ (by intro K k; simp (disch := omega) only [go_sem, f_51, ↓reduceIte]; exact k)
         refine AOps.nil ?_
         cases hj_23; exact sb
      ·rintro ⟨M4, L4⟩ hj_16; dsimp only at hj_16 ⊢
       refine AWp.reg ?_
       iterate 2 refine oo ?_
       refine AOps.nil ?_
       cases hj_16; exact sb
     ·rintro ⟨from2, M3, L3⟩ hb_10; dsimp only at hb_10 ⊢
      refine AWp.reg ?_
      iterate 2 refine oo ?_
      refine AOps.nil ?_
      exact ln hb_10 sb
    ·refine AWp.exit ?_
     refine lx hb_10 fun hx => ?_; cases hx; try dsimp only at h2_9
     cases h2_9; exact sb
   ·rintro ⟨M1, L1⟩ h; dsimp only at h ⊢
    refine sg fun K k => ?_
    iterate 3 refine oo ?_
    refine AOps.sub (τ := ⟨[(12, .d (.imm 1 (wab (PD.int .i64) L1))), (103, .mp 4), (104, .d (.agg [(.int .i64 mark1), (.int .i64 (IntKind.i64.wrap a1)), (.int .i64 0)])), (105, .d (.imm 1 (wab (PD.int .i64) L1)))], [(0, ⟨135, 1, [.mp 4]⟩), (1, ⟨22, 1, [.d (.imm 2 (wab Rule.pd o1))]⟩), (2, ⟨3, 1, [.d (.int .i64 o2)]⟩), (3, ⟨136, 1, [.func (.func 93) [.ptr 0 0 0, .ptr 1 0 0, .ptr 2 0 0, .ptr 3 0 0]]⟩), (4, ⟨135, 0, wam Arr3_Int.pd (wdj 1 (PD.int .i64)) M1⟩)], [], none⟩) sc ?_
    refine oms (k := (⟨mark1, (IntKind.i64.wrap a1), 0⟩ : Arr3_Int)) (L := M1) (v := L1) (encV := (wdj 1 (PD.int .i64))) wiW wsS ?_
    refine AOps.nil (k _ ?_)
    refine sg fun K k => ?_
    iterate 2 refine oo ?_
    refine AOps.nil (k _ ?_)
    refine AWp.ret ?_
    cases h; exact rtO
end Go.Pv.Tryd

namespace Go.Pv.Tryd
open Go.Proofs Go.Pv
theorem wqv {α : Type} {f : α → PD} {l : List α} (h : wab f l = []) : l = [] := by simpa [wab] using h
theorem wp7 (l r : List Int) (h : whJ l = some r) : RowFn Tryd.prog G 92 [.d (.imm 1 (wab (PD.int .i64) l))] 3 1 (wab (PD.int .i64) r) := by
 unfold whJ at h
 split at h
 ·rename_i hlen
  cases h
  refine Fn.pf Tryd.func92 Tryd.ntmps92 ?_
  refine sg fun K k => ?_
  refine oo ?_
  refine AOps.nil (k _ ?_)
  refine AWp.seq fun _ K_1 => ?_
  refine sg fun K k => ?_
  refine oo ?_
  refine nt ty26 T26_desc (fun he => ?_) ?_
  ·simp only [go_sem, ↓reduceIte]
   refine AOps.nil (k _ ?_)
   refine cdt ?_
   cases wqv he
   refine sg fun K k => ?_
   refine oo ?_
   refine AOps.nil (k _ ?_)
   refine AWp.sub (Sub.void 2 3 1 1000 (by rfl) (by rfl) (by decide) (by decide)) ?_
   simp only [wd1, waj, ↓reduceIte, Nat.reduceEqDiff]
   refine AWp.ret ?_
   exact wsQ (hn := by rfl)
  ·simp only [go_sem, ↓reduceIte]
   refine AOps.nil (k _ ?_)
   refine cdf ?_
   refine AWp.skip ?_
   refine K_1 _ ?_
   refine sg fun K k => ?_
   iterate 4 refine oo ?_
   refine AOps.nil (k _ ?_)
   refine AWp.ret ?_
   exact wsQ (hn := by rw [lenc_length])
 ·cases h
end Go.Pv.Tryd

namespace Go.Pv.Tryd
open Go.Proofs Go.Pv
theorem wlG (k1 : Int) (t1 : (List Rule)) (r : (List Int)) (h : wet k1 t1 = some r) : PureFn Tryd.prog G 60 [.d (.int .i64 k1), .d (.imm 2 (wab Rule.pd t1))] (.d (.imm 1 (wab (PD.int .i64) r))) := by
 unfold wet at h
 refine pf Tryd.func60 Tryd.ntmps60 ?_
 refine sg fun K k => ?_
 iterate 3 refine oo ?_
 refine AOps.nil (k _ ?_)
 refine sg fun K k => ?_
 refine omk (α := Arr3_Int) (β := (List Int)) Arr3_Int.pd (wdj 1 (PD.int .i64)) 1002 ?_
 iterate 2 refine oo ?_
 refine AOps.nil (k _ ?_)
 refine sg fun K k => ?_
 refine oo ?_
 refine AOps.nil (k _ ?_)
 refine sg fun K k => ?_
 iterate 2 refine oo ?_
 refine AOps.nil (k _ ?_)
 refine sd mo fun K k => ?_
 iterate 2 refine dd ?_
 obtain ⟨r1, hx_1, h⟩ := bind_some h
 refine dcl (wdT t1 _ hx_1) ?_
 refine DOps.stop (by kernel_rfl) ?_
 obtain ⟨r2, hx_2, h⟩ := bind_some h
 refine clU [(0, 1003), (1, 1001), (2, 1000), (3, 1004), (4, 1002)] [] (wjm 100 t1 k1 [] 0 r1 _ hx_2) ?_
 obtain ⟨r3, hx_3, h⟩ := bind_some h
 refine wtD 1005 (wp7 r2.1 _ hx_3) ?_
 refine oo ?_
 refine AOps.nil (k _ ?_)
 refine AWp.ret ?_
 cases h; exact rt
end Go.Pv.Tryd

namespace Go.Pv.Tryd
open Go.Proofs Go.Pv
theorem wmL (k1 : Int) (t1 : (List Rule)) (r : ((List Int) × Int)) (h : wfi k1 t1 = some r) : PureFn Tryd.prog G 30 [.d (.int .i64 k1), .d (.imm 2 (wab Rule.pd t1))] (.tuple [.d (.imm 1 (wab (PD.int .i64) r.1)), .d (.int .i64 r.2)]) := by
 unfold wfi at h
 refine pf Tryd.func30 Tryd.ntmps30 ?_
 refine sg fun K k => ?_
 iterate 2 refine oo ?_
 refine AOps.nil (k _ ?_)
 refine AWp.seq fun _ K_1 => ?_
 refine sg fun K k => ?_
 iterate 2 refine oo ?_
 refine ol ?_
 obtain ⟨r1, hx_2, h⟩ := bind_some h
 refine cl (wdn k1 [t1] _ hx_2) ?_
 refine oo ?_
 refine AOps.nil (k _ ?_)
 refine sg fun K k => ?_
 iterate 2 refine oo ?_
 refine AOps.nil (k _ ?_)
 refine cd h (fun h => ?_) (fun h => ?_)
 ·refine sg fun K k => ?_
  iterate 3 refine oo ?_
  refine AOps.nil (k _ ?_)
  refine AWp.ret ?_
  cases h; exact rt
 ·refine AWp.skip ?_
  refine K_1 _ ?_
  refine sg fun K k => ?_
  refine oo ?_
  refine AOps.nil (k _ ?_)
  refine AWp.sub (Sub.void 7 3 1 1000 (by rfl) (by rfl) (by decide) (by decide)) ?_
  simp only [wd1, waj, reduceCtorEq, ↓reduceIte, Nat.reduceAdd, Nat.reduceMul, Nat.reduceLT, Nat.reduceLeDiff, Nat.reduceEqDiff, Nat.reduceBEq, Int.reduceToNat]
  refine jn (α := (List Int)) [] [] (fun i t => (7, .slc 1000 0 i.length) :: t) (fun i t => (1000, ⟨3, 1, dl (wab (PD.int .i64) i)⟩) :: t) h ?_ ?_
  ·intro _ hj_5
   refine sg fun K k => ?_
   iterate 2 refine oo ?_
   obtain ⟨r2, hx_6, hj_5⟩ := bind_some hj_5
   refine cl (wlG k1 t1 _ hx_6) ?_
   obtain ⟨hg_7, hj_5⟩ := wai hj_5
   iterate 5 refine oo ?_
   refine AOps.nil (k _ ?_)
   refine AWp.block ?_
   obtain ⟨x_12, hl_9, h2_10⟩ := bind_some hj_5
   refine lp (S := (Int × (List Int))) [22, 23] [] (fun i t => (7, .slc 1000 0 i.2.length) :: (24, .d (.int .i64 i.1)) :: t) (fun i t => (1000, ⟨3, 1, dl (wab (PD.int .i64) i.2)⟩) :: t) hl_9 ?_ ?_; exact sb; clear hl_9
   rintro ⟨v1, L2⟩ _ hb_11; unfold we8 at hb_11; try dsimp only at hb_11
   try dsimp only
   refine sg fun K k => ?_
   refine oo ?_
   refine AOps.nil (k _ ?_)
   refine AWp.seq fun _ K_14 => ?_
   refine cd hb_11 (fun hb_11 => ?_) (fun hb_11 => ?_)
   ·refine AWp.skip ?_
    refine K_14 _ ?_
    refine jn (α := (List Int)) [22, 23, 24] [] (fun i t => (7, .slc 1000 0 i.length) :: t) (fun i t => (1000, ⟨3, 1, dl (wab (PD.int .i64) i)⟩) :: t) hb_11 ?_ ?_
    ·intro _ hj_17
     refine AWp.block ?_
     refine sg fun K k => ?_
     obtain ⟨e1, ⟨f_18, f_19, f_20, f_21⟩, hj_17⟩ := wak hj_17
     try simp only [List.length_append, List.length_set, List.length_replicate, List.length_cons, List.length_nil] at f_19 f_21
     iterate 2 refine oo ?_
     refine oo ?_ (by intro K k; simp (disch := omega) only [go_sem, f_20, ↓reduceIte]; exact k)
     iterate 2 refine oo ?_
     refine AOps.nil (k _ ?_)
     refine sg fun K k => ?_
     iterate 2 refine oo ?_
     refine AOps.nil (k _ ?_)
     refine cd hj_17 (fun hj_17 => ?_) (fun hj_17 => ?_)
     ·refine AWp.reg ?_
      iterate 2 refine oo ?_
      refine ol ?_
      obtain ⟨hg_23, hj_17⟩ := wai hj_17
      iterate 2 refine oo ?_
      refine AOps.nil ?_
      cases hj_17; exact sb
     ·refine AWp.skip ?_
      cases hj_17; exact sb
    ·rintro L3 hb_11; dsimp only at hb_11 ⊢
     refine AWp.reg ?_
     iterate 2 refine oo ?_
     refine AOps.nil ?_
     exact ln hb_11 sb
   ·refine AWp.exit ?_
    refine lx hb_11 fun hx => ?_; cases hx; try dsimp only at h2_10
    cases h2_10; exact sb
  ·rintro L1 h; dsimp only at h ⊢
   refine sg fun K k => ?_
   iterate 3 refine oo ?_
   refine AOps.nil (k _ ?_)
   refine AWp.ret ?_
   cases h; exact rt
end Go.Pv.Tryd

namespace Go.Pv.Tryd
open Go.Proofs Go.Pv
theorem wl6 (i1 : Int) (v1 : Int) (r : Bool) (h : weM i1 v1 = some r) : PureFn Tryd.prog G 50 [.d (.int .i64 i1), .d (.int .i64 v1)] (.d (.bool r)) := by
 unfold weM at h
 refine pf Tryd.func50 Tryd.ntmps50 ?_
 refine sg fun K k => ?_
 refine oo ?_
 refine AOps.nil (k _ ?_)
 refine sg fun K k => ?_
 iterate 3 refine oo ?_
 refine AOps.nil (k _ ?_)
 refine AWp.ret ?_
 cases h; exact rt
end Go.Pv.Tryd

namespace Go.Pv.Tryd
open Go.Proofs Go.Pv
set_option maxHeartbeats 4000000 in
theorem wgw (n : Nat) : ∀ (o1 : Walker) (m1 : (List (Arr3_Int × Bool))) (mark1 : Int) (a1 : Int) (b1 : Int) (r : ((List Int) × Bool × (List (Arr3_Int × Bool)))) (h : wbP n o1 m1 mark1 a1 b1 = some r), ObjFn Tryd.prog G 79 [.d (.int .i64 mark1), .d (.int .u32 a1), .d (.int .u32 b1), .ptr 0 0 0, .ptr 1 0 0, .ptr 2 0 0, .ptr 3 0 0] [(0, ⟨72, 3, [.d (.agg [(.int .i64 o1.k), (.imm 2 (wab Rule.pd o1.s)), (.imm 2 (wab Rule.pd o1.t))])]⟩), (1, ⟨74, 1, [.d (.fn (.func 50))]⟩), (2, ⟨117, 1, [.mp 4]⟩), (3, ⟨118, 1, [.func (.func 79) [.ptr 0 0 0, .ptr 1 0 0, .ptr 2 0 0, .ptr 3 0 0]]⟩), (4, ⟨117, 0, wam Arr3_Int.pd PD.bool m1⟩)] (.tuple [.d (.imm 1 (wab (PD.int .i64) r.1)), .d (.bool r.2.1)]) [(0, ⟨72, 3, [.d (.agg [(.int .i64 o1.k), (.imm 2 (wab Rule.pd o1.s)), (.imm 2 (wab Rule.pd o1.t))])]⟩), (1, ⟨74, 1, [.d (.fn (.func 50))]⟩), (2, ⟨117, 1, [.mp 4]⟩), (3, ⟨118, 1, [.func (.func 79) [.ptr 0 0 0, .ptr 1 0 0, .ptr 2 0 0, .ptr 3 0 0]]⟩), (4, ⟨117, 0, wam Arr3_Int.pd PD.bool r.2.2⟩)] := by
 induction n with
 | zero => intro o1 m1 mark1 a1 b1 r h; cases h
 | succ n ih =>
  intro o1 m1 mark1 a1 b1 r h
  replace h : wbC (wbP n) o1 m1 mark1 a1 b1 = some r := h
  unfold wbC at h
  refine ObjFn.pf Tryd.func79 Tryd.ntmps79 ?_
  refine sg fun K k => ?_
  iterate 2 refine oo ?_
  refine AOps.nil (k _ ?_)
  refine AWp.seq fun _ K_1 => ?_
  refine sg fun K k => ?_
  iterate 4 refine oo ?_
  refine AOps.nil (k _ ?_)
  refine cd h (fun h => ?_) (fun h => ?_)
  ·refine sd mo fun K k => ?_
   iterate 2 refine dd ?_
   obtain ⟨r1, hx_3, h⟩ := bind_some h
   refine dcl (wcg a1 _ hx_3) ?_
   refine dd ?_
   obtain ⟨r2, hx_4, h⟩ := bind_some h
   refine dcl (wcg b1 _ hx_4) ?_
   refine DOps.stop (by kernel_rfl) ?_
   obtain ⟨r3, hx_5, h⟩ := bind_some h
   refine clV (wl6 r1 r2 _ hx_5) ?_
   iterate 2 refine oo ?_
   refine AOps.nil (k _ ?_)
   refine AWp.sub (τ := ⟨[(10, .d (.imm 1 (wab (PD.int .i64) []))), (11, .d (.bool r3))], [(0, ⟨72, 3, [.d (.agg [(.int .i64 o1.k), (.imm 2 (wab Rule.pd o1.s)), (.imm 2 (wab Rule.pd o1.t))])]⟩), (1, ⟨74, 1, [.d (.fn (.func 50))]⟩), (2, ⟨117, 1, [.mp 4]⟩), (3, ⟨118, 1, [.func (.func 79) [.ptr 0 0 0, .ptr 1 0 0, .ptr 2 0 0, .ptr 3 0 0]]⟩), (4, ⟨117, 0, wam Arr3_Int.pd PD.bool m1⟩)], [], none⟩) sc ?_
   refine AWp.ret ?_
   cases h; exact rtO
  ·refine AWp.skip ?_
   refine K_1 _ ?_
   refine sg fun K k => ?_
   iterate 8 refine oo ?_
   refine AOps.nil (k _ ?_)
   refine AWp.seq fun _ K_6 => ?_
   refine sg fun K k => ?_
   iterate 2 refine oo ?_
   refine oml (k := (⟨mark1, (IntKind.i64.wrap a1), (IntKind.i64.wrap b1)⟩ : Arr3_Int)) (L := m1) (v0 := false) (encV := PD.bool) wiW wo6 ty4 MZ4 (fun _ _ => .bool _) ?_
   refine AOps.nil (k _ ?_)
   refine cd h (fun h => ?_) (fun h => ?_)
   ·refine sg fun K k => ?_
    iterate 2 refine oo ?_
    refine AOps.nil (k _ ?_)
    refine AWp.sub (τ := ⟨[(10, .d (.imm 1 (wab (PD.int .i64) []))), (11, .d (.bool false))], [(0, ⟨72, 3, [.d (.agg [(.int .i64 o1.k), (.imm 2 (wab Rule.pd o1.s)), (.imm 2 (wab Rule.pd o1.t))])]⟩), (1, ⟨74, 1, [.d (.fn (.func 50))]⟩), (2, ⟨117, 1, [.mp 4]⟩), (3, ⟨118, 1, [.func (.func 79) [.ptr 0 0 0, .ptr 1 0 0, .ptr 2 0 0, .ptr 3 0 0]]⟩), (4, ⟨117, 0, wam Arr3_Int.pd PD.bool m1⟩)], [], none⟩) sc ?_
    refine AWp.ret ?_
    cases h; exact rtO
   ·refine AWp.skip ?_
    refine K_6 _ ?_
    refine sg fun K k => ?_
    refine oo ?_
    refine AOps.nil (k _ ?_)
    refine jm (ι := (List (Arr3_Int × Bool))) [5, 12] [0, 1, 3, 1000] (fun i t => t) (fun i t => (2, ⟨117, 1, [.mp 4]⟩) :: (4, ⟨117, 0, wam Arr3_Int.pd PD.bool i⟩) :: t) .inl h ?_ ?_
    ·intro _ hj_9 h
     refine sg fun K k => ?_
     iterate 5 refine oo ?_
     refine ol ?_
     obtain ⟨r4, hx_10, hj_9⟩ := bind_some hj_9
     refine cl (wfc mark1 [o1.s, o1.t] _ hx_10) ?_
     iterate 2 refine oo ?_
     refine AOps.nil (k _ ?_)
     refine AWp.block ?_
     obtain ⟨x_15, hl_12, h2_13⟩ := bind_some hj_9
     refine lp (S := (Int × Int × (List (Arr3_Int × Bool)))) [0, 1, 2, 3, 5, 6, 12, 43, 44] [0, 1, 3, 1000] (fun i t => (13, .d (.int .i64 i.1)) :: (45, .d (.int .i64 i.2.1)) :: t) (fun i t => (2, ⟨117, 1, [.mp 4]⟩) :: (4, ⟨117, 0, wam Arr3_Int.pd PD.bool i.2.2⟩) :: t) hl_12 ?_ ?_; exact sb; clear hl_12
     rintro ⟨from1, v1, M2⟩ _ hb_14; unfold wb4 at hb_14; try dsimp only at hb_14
     try dsimp only
     refine sg fun K k => ?_
     refine oo ?_
     refine AOps.nil (k _ ?_)
     refine AWp.seq fun _ K_17 => ?_
     refine cd hb_14 (fun hb_14 => ?_) (fun hb_14 => ?_)
     ·refine AWp.skip ?_
      refine K_17 _ ?_
      refine AWp.seq fun _ K_19 => ?_
      refine AWp.block ?_
      refine sg fun K k => ?_
      obtain ⟨e1, ⟨f_20, f_21, f_22, f_23⟩, hb_14⟩ := wak hb_14
      refine oo ?_
      refine oo ?_ (by intro K k; simp (disch := omega) only [go_sem, f_22, ↓reduceIte]; exact k)
      refine oo ?_
      refine AOps.nil (k _ ?_)
      refine AWp.seq fun _ K_24 => ?_
      refine sd mo fun K k => ?_
      iterate 8 refine dd ?_
      obtain ⟨r5, hx_25, hb_14⟩ := bind_some hb_14
      refine dcl (wdz o1.s mark1 from1 _ hx_25) ?_
      iterate 6 refine dd ?_
      obtain ⟨r6, hx_26, hb_14⟩ := bind_some hb_14
      refine dcl (wdz o1.t mark1 from1 _ hx_26) ?_
      refine dd ?_
      refine DOps.bar (by kernel_rfl) ?_
      refine BOps.hard (by kernel_rfl) ?_
      obtain ⟨r7, hx_27, hb_14⟩ := bind_some hb_14
      refine clU [(0, 0), (1, 1), (2, 2), (3, 3), (4, 4)] [] (ih o1 M2 (IntKind.i64.wrap (mark1 + 1)) (IntKind.u32.wrap ↑(BitVec.ofInt IntKind.u32.bits a1 &&& BitVec.ofInt IntKind.u32.bits r5).toNat) (IntKind.u32.wrap ↑(BitVec.ofInt IntKind.u32.bits b1 &&& BitVec.ofInt IntKind.u32.bits r6).toNat) _ hx_27) ?_
      refine AOps.nil ?_
      refine BOps.draw [] trivial (Nat.le_of_ble_eq_true rfl) ?_
      iterate 5 refine dd ?_
      refine DOps.nil (by kernel_rfl) (k _ ?_)
      refine sg fun K k => ?_
      refine oo ?_
      refine AOps.nil (k _ ?_)
      refine cd hb_14 (fun hb_14 => ?_) (fun hb_14 => ?_)
      ·refine sg fun K k => ?_
       obtain ⟨hg_29, hb_14⟩ := wai hb_14
       iterate 6 refine oo ?_
       refine AOps.nil (k _ ?_)
       refine AWp.sub (τ := ⟨[(10, .d (.imm 1 (wab (PD.int .i64) ([from1] ++ r7.1)))), (11, .d (.bool true))], [(0, ⟨72, 3, [.d (.agg [(.int .i64 o1.k), (.imm 2 (wab Rule.pd o1.s)), (.imm 2 (wab Rule.pd o1.t))])]⟩), (1, ⟨74, 1, [.d (.fn (.func 50))]⟩), (2, ⟨117, 1, [.mp 4]⟩), (3, ⟨118, 1, [.func (.func 79) [.ptr 0 0 0, .ptr 1 0 0, .ptr 2 0 0, .ptr 3 0 0]]⟩), (4, ⟨117, 0, wam Arr3_Int.pd PD.bool r7.2.2⟩)], [], none⟩) sc ?_
       refine AWp.ret ?_
       refine lx hb_14 fun hx => ?_; cases hx; try dsimp only at h2_13
       cases h2_13; try dsimp only at h
       cases h; exact rtO
      ·refine AWp.skip ?_
       refine K_24 _ ?_
       refine AWp.reg ?_
       iterate 2 refine oo ?_
       refine AOps.nil ?_
       refine K_19 _ ?_
       refine AWp.reg ?_
       iterate 2 refine oo ?_
       refine AOps.nil ?_
       exact ln hb_14 sb
     ·refine AWp.exit ?_
      refine lx hb_14 fun hx => ?_; cases hx; try dsimp only at h2_13
      exact ln h2_13 sb
    ·rintro M1 h; dsimp only at h ⊢
     refine sg fun K k => ?_
     iterate 2 refine oo ?_
     refine oms (k := (⟨mark1, (IntKind.i64.wrap a1), (IntKind.i64.wrap b1)⟩ : Arr3_Int)) (L := M1) (v := true) (encV := PD.bool) wiW wo6 ?_
     refine AOps.nil (k _ ?_)
     refine sg fun K k => ?_
     iterate 2 refine oo ?_
     refine AOps.nil (k _ ?_)
     refine AWp.sub (τ := ⟨[(10, .d (.imm 1 (wab (PD.int .i64) []))), (11, .d (.bool false))], [(0, ⟨72, 3, [.d (.agg [(.int .i64 o1.k), (.imm 2 (wab Rule.pd o1.s)), (.imm 2 (wab Rule.pd o1.t))])]⟩), (1, ⟨74, 1, [.d (.fn (.func 50))]⟩), (2, ⟨117, 1, [.mp 4]⟩), (3, ⟨118, 1, [.func (.func 79) [.ptr 0 0 0, .ptr 1 0 0, .ptr 2 0 0, .ptr 3 0 0]]⟩), (4, ⟨117, 0, wam Arr3_Int.pd PD.bool (wcC (⟨mark1, (IntKind.i64.wrap a1), (IntKind.i64.wrap b1)⟩ : Arr3_Int) true M1)⟩)], [], none⟩) sc ?_
     refine AWp.ret ?_
     cases h; exact rtO
end Go.Pv.Tryd

namespace Go.Pv.Tryd
open Go.Proofs Go.Pv
theorem whO (w1 : Walker) (r : ((List Int) × Bool)) (h : wco w1 = some r) : PureFn Tryd.prog G 49 [.d (.agg [(.int .i64 w1.k), (.imm 2 (wab Rule.pd w1.s)), (.imm 2 (wab Rule.pd w1.t))]), .d (.fn (.func 50))] (.tuple [.d (.imm 1 (wab (PD.int .i64) r.1)), .d (.bool r.2)]) := by
 unfold wco at h
 refine pf Tryd.func49 Tryd.ntmps49 ?_
 refine sg fun K k => ?_
 iterate 4 refine oo ?_
 refine AOps.nil (k _ ?_)
 refine sg fun K k => ?_
 refine omk (α := Arr3_Int) (β := Bool) Arr3_Int.pd PD.bool 1002 ?_
 iterate 2 refine oo ?_
 refine AOps.nil (k _ ?_)
 refine sg fun K k => ?_
 refine oo ?_
 refine AOps.nil (k _ ?_)
 refine sg fun K k => ?_
 iterate 2 refine oo ?_
 refine AOps.nil (k _ ?_)
 refine sd mo fun K k => ?_
 iterate 3 refine dd ?_
 obtain ⟨r1, hx_1, h⟩ := bind_some h
 refine dcl (wdT w1.s _ hx_1) ?_
 iterate 2 refine dd ?_
 obtain ⟨r2, hx_2, h⟩ := bind_some h
 refine dcl (wdT w1.t _ hx_2) ?_
 refine DOps.bar (by kernel_rfl) ?_
 refine BOps.hard (by kernel_rfl) ?_
 obtain ⟨r3, hx_3, h⟩ := bind_some h
 refine clU [(0, 1000), (1, 1001), (2, 1003), (3, 1004), (4, 1002)] [] (wgw 100 w1 [] 0 r1 r2 _ hx_3) ?_
 refine AOps.nil ?_
 refine BOps.draw [] trivial (Nat.le_of_ble_eq_true rfl) ?_
 iterate 4 refine dd ?_
 refine DOps.nil (by kernel_rfl) (k _ ?_)
 refine AWp.ret ?_
 cases h; exact rt
end Go.Pv.Tryd

namespace Go.Pv.Tryd
open Go.Proofs Go.Pv
theorem wh3 (l1 : (List Int)) (ok1 : Bool) (r : ((List Int) × Int)) (h : wdq l1 ok1 = some r) : PureFn Tryd.prog G 48 [.d (.imm 1 (wab (PD.int .i64) l1)), .d (.bool ok1)] (.tuple [.d (.imm 1 (wab (PD.int .i64) r.1)), .d (.int .i64 r.2)]) := by
 unfold wdq at h
 refine pf Tryd.func48 Tryd.ntmps48 ?_
 refine sg fun K k => ?_
 iterate 2 refine oo ?_
 refine AOps.nil (k _ ?_)
 refine AWp.seq fun _ K_1 => ?_
 refine sg fun K k => ?_
 iterate 2 refine oo ?_
 refine AOps.nil (k _ ?_)
 refine cd h (fun h => ?_) (fun h => ?_)
 ·refine sg fun K k => ?_
  iterate 2 refine oo ?_
  refine AOps.nil (k _ ?_)
  refine AWp.ret ?_
  cases h; exact rt
 ·refine AWp.skip ?_
  refine K_1 _ ?_
  refine sg fun K k => ?_
  iterate 3 refine oo ?_
  refine AOps.nil (k _ ?_)
  refine AWp.ret ?_
  cases h; exact rt
end Go.Pv.Tryd

namespace Go.Pv.Tryd
open Go.Proofs Go.Pv
theorem wnC (k1 : Int) (t1 : (List Rule)) (r : ((List Int) × Int)) (h : wfF k1 t1 = some r) : PureFn Tryd.prog G 21 [.d (.int .i64 k1), .d (.imm 2 (wab Rule.pd t1))] (.tuple [.d (.imm 1 (wab (PD.int .i64) r.1)), .d (.int .i64 r.2)]) := by
 unfold wfF at h
 refine pf Tryd.func21 Tryd.ntmps21 ?_
 refine sg fun K k => ?_
 iterate 2 refine oo ?_
 refine AOps.nil (k _ ?_)
 refine AWp.seq fun _ K_1 => ?_
 refine sg fun K k => ?_
 iterate 2 refine oo ?_
 refine ol ?_
 obtain ⟨r1, hx_2, h⟩ := bind_some h
 refine cl (wdn k1 [t1] _ hx_2) ?_
 refine oo ?_
 refine AOps.nil (k _ ?_)
 refine sg fun K k => ?_
 iterate 2 refine oo ?_
 refine AOps.nil (k _ ?_)
 refine cd h (fun h => ?_) (fun h => ?_)
 ·refine sg fun K k => ?_
  iterate 3 refine oo ?_
  refine AOps.nil (k _ ?_)
  refine AWp.ret ?_
  cases h; exact rt
 ·refine AWp.skip ?_
  refine K_1 _ ?_
  refine sg fun K k => ?_
  iterate 3 refine oo ?_
  refine AOps.sub (τ := ⟨[(16, .d (.agg [(.int .i64 k1), (.imm 2 (wab Rule.pd t1)), (.imm 2 (wab Rule.pd []))]))], [], [], none⟩) sc ?_
  obtain ⟨r2, hx_4, h⟩ := bind_some h
  refine clC (whO (⟨k1, t1, []⟩ : Walker) _ hx_4) ?_
  iterate 2 refine oo ?_
  obtain ⟨r3, hx_5, h⟩ := bind_some h
  refine cl (wh3 r2.1 r2.2 _ hx_5) ?_
  iterate 4 refine oo ?_
  refine AOps.nil (k _ ?_)
  refine AWp.ret ?_
  cases h; exact rt
end Go.Pv.Tryd

namespace Go.Pv.Tryd
open Go.Proofs Go.Pv
theorem whZ (o1 : Builder) (a1 : Int) (r : (Int × Builder)) (h : wbv o1 a1 = some r) : ObjFn Tryd.prog G 88 [.ptr 0 0 0, .d (.int .u32 a1)] [(0, ⟨92, 5, [.agg [.d (.int .i64 o1.k), .d (.imm 2 (wab Rule.pd o1.rules)), .mp 1, .mp 2, .slc 1003 0 o1.nodes.length]]⟩), (1, ⟨89, 0, wam Arr3_Int.pd (PD.int .i64) o1.known⟩), (2, ⟨90, 0, wam PD.str (PD.int .i64) o1.same⟩), (1003, ⟨37, 3, dl (wab Node.pd o1.nodes)⟩)] (.d (.int .i64 r.1)) [(0, ⟨92, 5, [.agg [.d (.int .i64 r.2.k), .d (.imm 2 (wab Rule.pd r.2.rules)), .mp 1, .mp 2, .slc 1003 0 r.2.nodes.length]]⟩), (1, ⟨89, 0, wam Arr3_Int.pd (PD.int .i64) r.2.known⟩), (2, ⟨90, 0, wam PD.str (PD.int .i64) r.2.same⟩), (1003, ⟨37, 3, dl (wab Node.pd r.2.nodes)⟩)] := by
 unfold wbv at h
 refine ObjFn.pf Tryd.func88 Tryd.ntmps88 ?_
 refine sg fun K k => ?_
 refine oo ?_
 refine AOps.nil (k _ ?_)
 refine sg fun K k => ?_
 refine oo ?_
 obtain ⟨r1, hx_1, h⟩ := bind_some h
 refine cl (wcg a1 _ hx_1) ?_
 refine oo ?_
 refine AOps.nil (k _ ?_)
 refine AWp.seq fun _ K_2 => ?_
 refine sg fun K k => ?_
 iterate 2 refine oo ?_
 refine AOps.nil (k _ ?_)
 refine cd h (fun h => ?_) (fun h => ?_)
 ·refine sg fun K k => ?_
  refine oo ?_
  refine AOps.nil (k _ ?_)
  refine AWp.ret ?_
  cases h; exact rtO
 ·refine AWp.skip ?_
  refine K_2 _ ?_
  refine sg fun K k => ?_
  obtain ⟨e1, ⟨f_4, f_5, f_6, f_7⟩, h⟩ := wak h
  iterate 7 refine oo ?_
  refine oo ?_ (by intro K k; simp (disch := omega) only [go_sem, f_6, ↓reduceIte]; exact k)
  iterate 2 refine oo ?_
  refine AOps.nil (k _ ?_)
  refine AWp.ret ?_
  cases h; exact rtO
end Go.Pv.Tryd

namespace Go.Pv.Tryd
open Go.Proofs Go.Pv
theorem wlH (ends1 : (List Int)) (to1 : (List Int)) (r : ((List Int) × (List Int))) (h : wc5 ends1 to1 = some r) : PureFn Tryd.prog G 89 [.d (.imm 1 (wab (PD.int .i64) ends1)), .d (.imm 1 (wab (PD.int .i64) to1))] (.tuple [.d (.imm 1 (wab (PD.int .i64) r.1)), .d (.imm 1 (wab (PD.int .i64) r.2))]) := by
 unfold wc5 at h
 refine pf Tryd.func89 Tryd.ntmps89 ?_
 refine sg fun K k => ?_
 iterate 2 refine oo ?_
 refine AOps.nil (k _ ?_)
 refine sg fun K k => ?_
 iterate 2 refine oo ?_
 refine AOps.nil (k _ ?_)
 refine AWp.sub (Sub.void 6 3 1 1000 (by rfl) (by rfl) (by decide) (by decide)) ?_
 simp only [wd1, waj, reduceCtorEq, ↓reduceIte, Nat.reduceAdd, Nat.reduceMul, Nat.reduceLT, Nat.reduceLeDiff, Nat.reduceEqDiff, Nat.reduceBEq, Int.reduceToNat]
 refine AWp.sub (Sub.void 7 3 1 1001 (by rfl) (by rfl) (by decide) (by decide)) ?_
 simp only [wd1, waj, reduceCtorEq, ↓reduceIte, Nat.reduceAdd, Nat.reduceMul, Nat.reduceLT, Nat.reduceLeDiff, Nat.reduceEqDiff, Nat.reduceBEq, Int.reduceToNat]
 refine jn (α := ((List Int) × (List Int))) [] [] (fun i t => (6, .slc 1000 0 i.1.length) :: (7, .slc 1001 0 i.2.length) :: t) (fun i t => (1000, ⟨3, 1, dl (wab (PD.int .i64) i.1)⟩) :: (1001, ⟨3, 1, dl (wab (PD.int .i64) i.2)⟩) :: t) h ?_ ?_
 ·intro _ hj_2
  refine sg fun K k => ?_
  iterate 3 refine oo ?_
  refine AOps.nil (k _ ?_)
  refine AWp.block ?_
  obtain ⟨x_7, hl_4, h2_5⟩ := bind_some hj_2
  refine lp (S := (Int × (List Int) × (List Int))) [0, 11, 12] [] (fun i t => (6, .slc 1000 0 i.2.1.length) :: (7, .slc 1001 0 i.2.2.length) :: (13, .d (.int .i64 i.1)) :: t) (fun i t => (1000, ⟨3, 1, dl (wab (PD.int .i64) i.2.1)⟩) :: (1001, ⟨3, 1, dl (wab (PD.int .i64) i.2.2)⟩) :: t) hl_4 ?_ ?_; exact sb; clear hl_4
  rintro ⟨v1, L3, L4⟩ _ hb_6; unfold wbq at hb_6; try dsimp only at hb_6
  try dsimp only
  refine sg fun K k => ?_
  refine oo ?_
  refine AOps.nil (k _ ?_)
  refine AWp.seq fun _ K_9 => ?_
  refine cd hb_6 (fun hb_6 => ?_) (fun hb_6 => ?_)
  ·refine AWp.skip ?_
   refine K_9 _ ?_
   refine jn (α := ((List Int) × (List Int))) [0, 11, 12, 13] [] (fun i t => (6, .slc 1000 0 i.1.length) :: (7, .slc 1001 0 i.2.length) :: t) (fun i t => (1000, ⟨3, 1, dl (wab (PD.int .i64) i.1)⟩) :: (1001, ⟨3, 1, dl (wab (PD.int .i64) i.2)⟩) :: t) hb_6 ?_ ?_
   ·intro _ hj_12
    refine AWp.block ?_
    refine sg fun K k => ?_
    obtain ⟨e1, ⟨f_13, f_14, f_15, f_16⟩, hj_12⟩ := wak hj_12
    iterate 2 refine oo ?_
    refine oo ?_ (by intro K k; simp (disch := omega) only [go_sem, f_15, ↓reduceIte]; exact k)
    iterate 2 refine oo ?_
    refine AOps.nil (k _ ?_)
    refine AWp.seq fun _ K_17 => ?_
    refine sg fun K k => ?_
    iterate 3 refine oo ?_
    refine AOps.nil (k _ ?_)
    refine sg fun K k => ?_
    iterate 3 refine oo ?_
    obtain ⟨b1, hc_18, hj_12⟩ := bind_some hj_12
    refine ct 8 [0, 6, 7, 8, 9, 10, 11, 12, 13] [1000, 1001] (fun  t => (30, .d (.bool b1)) :: t) ?_ ?_
    ·rcases bt (decide (0 < (L4.length : Int))) with hg_23 | hg_23
     ·rw [hg_23]
      rw [hg_23, cond_true] at hc_18
      obtain ⟨e2, ⟨f_19, f_20, f_21, f_22⟩, hc_18⟩ := wak hc_18
      try simp only [Int.toNat_natCast] at f_21 f_22
      iterate 4 refine oo ?_
      refine oo ?_ (by intro K k; simp (disch := omega) only [go_sem, f_21, Int.toNat_natCast, ↓reduceIte]; exact k)
      iterate 3 refine oo ?_
      refine AOps.nil ?_
      cases hc_18
      exact sb
     ·rw [hg_23]
      rw [hg_23, cond_false] at hc_18
      iterate 8 refine oo ?_
      refine AOps.nil ?_
      cases hc_18
      exact sb
    refine AOps.nil (k _ ?_)
    refine cd hj_12 (fun hj_12 => ?_) (fun hj_12 => ?_)
    ·refine sg fun K k => ?_
     obtain ⟨e3, ⟨f_25, f_26, f_27, f_28⟩, hj_12⟩ := wak hj_12
     iterate 6 refine oo ?_
     refine oo ?_ (by intro K k; simp (disch := omega) only [go_sem, f_27, ↓reduceIte]; exact k)
     obtain ⟨e4, ⟨f_29, f_30, f_31, f_32⟩, hj_12⟩ := wak hj_12
     try simp only [Int.toNat_natCast] at f_31 f_32
     refine oo ?_
     refine oo ?_ (by intro K k; simp (disch := omega) only [go_sem, f_31, Int.toNat_natCast, ↓reduceIte]; exact k)
     refine AOps.nil (k _ ?_)
     refine AWp.exit ?_
     cases hj_12; exact sb
    ·refine AWp.skip ?_
     refine K_17 _ ?_
     refine AWp.reg ?_
     obtain ⟨e5, ⟨f_33, f_34, f_35, f_36⟩, hj_12⟩ := wak hj_12
     iterate 4 refine oo ?_
     refine oo ?_ (by intro K k; simp (disch := omega) only [go_sem, f_35, ↓reduceIte]; exact k)
     refine ol ?_
     obtain ⟨hg_37, hj_12⟩ := wai hj_12
     iterate 3 refine oo ?_
     refine ol ?_
     obtain ⟨hg_38, hj_12⟩ := wai hj_12
     iterate 3 refine oo ?_
     refine AOps.nil ?_
     cases hj_12; exact sb
   ·rintro ⟨L5, L6⟩ hb_6; dsimp only at hb_6 ⊢
    refine AWp.reg ?_
    iterate 2 refine oo ?_
    refine AOps.nil ?_
    exact ln hb_6 sb
  ·refine AWp.exit ?_
   refine lx hb_6 fun hx => ?_; cases hx; try dsimp only at h2_5
   cases h2_5; exact sb
 ·rintro ⟨L1, L2⟩ h; dsimp only at h ⊢
  refine sg fun K k => ?_
  iterate 4 refine oo ?_
  refine AOps.nil (k _ ?_)
  refine AWp.ret ?_
  cases h; exact rt
end Go.Pv.Tryd

namespace Go.Proofs
open Go.Shelf
def Tryd.laysM171_ren : Go.Shelf.Ren := ⟨fun | 171 => 110 | 243 => 117 | 246 => 130 | 283 => 137 | 284 => 138 | 285 => 139 | 286 => 140 | 129 => 128 | 317 => 142 | 318 => 143 | 319 => 144 | 320 => 145 | 337 => 146 | 338 => 147 | n => n, fun | 3 => 3 | 9 => 9 | 2 => 2 | 4 => 4 | 171 => 180 | 0 => 0 | 53 => 170 | 37 => 52 | 5 => 5 | 173 => 182 | 212 => 188 | 51 => 94 | 20 => 20 | 213 => 189 | 46 => 159 | 232 => 190 | 233 => 191 | n => n, fun | 17 => 0 | 18 => 1 | 19 => 2 | n => n⟩
theorem Tryd.laysM171 : Go.Proofs.LaysM.n171 Tryd.prog Tryd.laysM171_ren := {
 mixed := by kernel_rfl
 f129 := Tryd.func128.trans (congrArg some (by kernel_rfl))
 f171 := Tryd.func110.trans (congrArg some (by kernel_rfl))
 f243 := Tryd.func117.trans (congrArg some (by kernel_rfl))
 f246 := Tryd.func130.trans (congrArg some (by kernel_rfl))
 f283 := Tryd.func137.trans (congrArg some (by kernel_rfl))
 f284 := Tryd.func138.trans (congrArg some (by kernel_rfl))
 f285 := Tryd.func139.trans (congrArg some (by kernel_rfl))
 f286 := Tryd.func140.trans (congrArg some (by kernel_rfl))
 f317 := Tryd.func142.trans (congrArg some (by kernel_rfl))
 f318 := Tryd.func143.trans (congrArg some (by kernel_rfl))
 f319 := Tryd.func144.trans (congrArg some (by kernel_rfl))
 f320 := Tryd.func145.trans (congrArg some (by kernel_rfl))
 f337 := Tryd.func146.trans (congrArg some (by kernel_rfl))
 f338 := Tryd.func147.trans (congrArg some (by kernel_rfl))
 t0 := Tryd.underlying0
 a0 := Tryd.isAgg0
 z0 := Tryd.sizeOf0
 v0 := Tryd.zeroValue0
 t2 := Tryd.underlying2
 a2 := Tryd.isAgg2
 z2 := Tryd.sizeOf2
 v2 := Tryd.zeroValue2
 t3 := Tryd.underlying3
 a3 := Tryd.isAgg3
 z3 := Tryd.sizeOf3
 v3 := Tryd.zeroValue3
 t4 := Tryd.underlying4
 a4 := Tryd.isAgg4
 z4 := Tryd.sizeOf4
 v4 := Tryd.zeroValue4
 t5 := Tryd.underlying5
 a5 := Tryd.isAgg5
 z5 := Tryd.sizeOf5
 v5 := Tryd.zeroValue5
 t9 := Tryd.underlying9
 a9 := Tryd.isAgg9
 z9 := Tryd.sizeOf9
 v9 := Tryd.zeroValue9
 t20 := Tryd.underlying20
 a20 := Tryd.isAgg20
 z20 := Tryd.sizeOf20
 v20 := Tryd.zeroValue20
 t37 := Tryd.underlying52
 a37 := Tryd.isAgg52
 z37 := Tryd.sizeOf52
 v37 := Tryd.zeroValue52
 t46 := Tryd.underlying159
 a46 := Tryd.isAgg159
 z46 := Tryd.sizeOf159
 v46 := Tryd.zeroValue159
 t51 := Tryd.underlying94
 a51 := Tryd.isAgg94
 z51 := Tryd.sizeOf94
 v51 := Tryd.zeroValue94
 t53 := Tryd.underlying170
 a53 := Tryd.isAgg170
 z53 := Tryd.sizeOf170
 v53 := Tryd.zeroValue170
 t171 := Tryd.underlying180
 a171 := Tryd.isAgg180
 z171 := Tryd.sizeOf180
 v171 := Tryd.zeroValue180
 t173 := Tryd.underlying182
 a173 := Tryd.isAgg182
 z173 := Tryd.sizeOf182
 v173 := Tryd.zeroValue182
 t212 := Tryd.underlying188
 a212 := Tryd.isAgg188
 z212 := Tryd.sizeOf188
 v212 := Tryd.zeroValue188
 t213 := Tryd.underlying189
 a213 := Tryd.isAgg189
 z213 := Tryd.sizeOf189
 t232 := Tryd.underlying190
 a232 := Tryd.isAgg190
 z232 := Tryd.sizeOf190
 v232 := Tryd.zeroValue190
 t233 := Tryd.underlying191
 a233 := Tryd.isAgg191
 z233 := Tryd.sizeOf191
 v233 := Tryd.zeroValue191
 g17 := by kernel_rfl
 g18 := by kernel_rfl
 g19 := by kernel_rfl
 i0 := by kernel_rfl
 i2 := by kernel_rfl
 i3 := by kernel_rfl
 i4 := by kernel_rfl
 i5 := by kernel_rfl
 i9 := by kernel_rfl
 i20 := by kernel_rfl
 i37 := by kernel_rfl
 i46 := by kernel_rfl
 i51 := by kernel_rfl
 i53 := by kernel_rfl
 i171 := by kernel_rfl
 i173 := by kernel_rfl
 i212 := by kernel_rfl
 i232 := by kernel_rfl
 i233 := by kernel_rfl
 m17 := by kernel_rfl
 m18 := by kernel_rfl
 m19 := by kernel_rfl }
open Go.RowKit Go.Sort Go.Lib in
theorem Tryd.strconv_Itoa (n : Int) (h0 : -9223372036854775808 ≤ n) (h1 : n ≤ 9223372036854775807) (w : World) (htab : Lib.TabIs Tryd.prog w "internal/strconv.uint64pow10" .u64 Lib.pow10Tab) :
  Calls Tryd.prog 110 #[.int .i64 n] w fun e w' => e = .returned (.string ⟨(Lib.itoa n).toArray⟩) ∧ ∃ k os, w' = grow (w.drewN k) os := Any.strconv_Itoa Tryd.laysM171 n h0 h1 w htab
end Go.Proofs

namespace Go.Pv.Tryd
open Go.Proofs Go.Pv
theorem wp8 (w : World) (v : Value) : (callFunc 129 #[v]).run Tryd.prog w = .ok (.value v) w := by
 rw [run_callFunc_extern Tryd.func129 (by kernel_rfl) (by kernel_rfl) (by kernel_rfl) (e := Extern.AbiNoEscape.same) (by kernel_rfl)]
 rfl
theorem wqR : ∃ j, Tryd.prog.info? 148 = some j ∧ j.size = 2 := by
 have h : (Tryd.prog.info? 148).map (·.size) = some 2 := by kernel_rfl
 simpa [Option.map_eq_some_iff] using h
theorem wro (L : List Int) : ObjFn Tryd.prog G 116 [.ptr 0 0 0] [(0, ⟨148, 2, [.agg [.d .nilptr, .slc 1 0 L.length]]⟩), (1, ⟨5, 1, dl (wab (PD.int .u8) L)⟩)] (.tuple []) [(0, ⟨148, 2, [.agg [.ptr 0 0 0, .slc 1 0 L.length]]⟩), (1, ⟨5, 1, dl (wab (PD.int .u8) L)⟩)] := by
 obtain ⟨j, hj, hjs⟩ := wqR
 refine ObjFn.pf Tryd.func116 Tryd.ntmps116 ?_
 refine AWp.seq fun _ K_1 => ?_
 refine AWp.reg ?_
 iterate 5 refine oo ?_
 refine AOps.nil ?_
 refine K_1 _ ?_
 refine cdt ?_
 refine AWp.reg ?_
 iterate 2 refine oo ?_
 refine on (fun K' hK' => OpT.toUnsafe (t := 148) (r := 0) rfl (by kernel_rfl) (by kernel_rfl) hj (by omega) (by rfl) (by rfl) (by exact Nat.one_pos) (by decide) (hK' _ ?_))
 refine on (fun K' hK' => OpT.noEscape rfl rfl rfl wp8 (by decide) (hK' _ ?_))
 refine on (fun K' hK' => OpT.fromUnsafe (u := 148) (r := 0) rfl (by kernel_rfl) (by kernel_rfl) hj (by rfl) (by rfl) (by exact Nat.one_pos) rfl (by kernel_rfl) (by decide) (hK' _ ?_))
 iterate 3 refine oo ?_
 refine AOps.nil ?_
 exact rtO
theorem wrp (L : List Int) : ObjFn Tryd.prog G 116 [.ptr 0 0 0] [(0, ⟨148, 2, [.agg [.ptr 0 0 0, .slc 1 0 L.length]]⟩), (1, ⟨5, 1, dl (wab (PD.int .u8) L)⟩)] (.tuple []) [(0, ⟨148, 2, [.agg [.ptr 0 0 0, .slc 1 0 L.length]]⟩), (1, ⟨5, 1, dl (wab (PD.int .u8) L)⟩)] := by
 obtain ⟨j, hj, hjs⟩ := wqR
 refine ObjFn.pf Tryd.func116 Tryd.ntmps116 ?_
 refine AWp.seq fun _ K_1 => ?_
 refine AWp.reg ?_
 iterate 5 refine oo ?_
 refine AOps.nil ?_
 refine K_1 _ ?_
 refine cdf ?_
 refine AWp.seq fun _ K_2 => ?_
 refine AWp.reg ?_
 iterate 5 refine oo ?_
 refine on (fun K' hK' => OpT.neqSame (te := 148) (r := 0) (i := 0) (off := 0) rfl (by kernel_rfl) hj (by rfl) (by rfl) (by decide) (hK' _ ?_))
 refine AOps.nil ?_
 refine K_2 _ ?_
 refine cdf ?_
 refine AWp.skip ?_
 exact rtO
theorem woK (b : Bool) (L : List Int) : ObjFn Tryd.prog G 116 [.ptr 0 0 0] [(0, ⟨148, 2, [.agg [wdf b 0, .slc 1 0 L.length]]⟩), (1, ⟨5, 1, dl (wab (PD.int .u8) L)⟩)] (.tuple []) [(0, ⟨148, 2, [.agg [.ptr 0 0 0, .slc 1 0 L.length]]⟩), (1, ⟨5, 1, dl (wab (PD.int .u8) L)⟩)] := by
 cases b
 ·exact wro L
 ·exact wrp L
theorem wr2 (o : StringsBuilder) (s : ByteArray) (r : StringsBuilder) (h : wlo o s = some r) : ObjFn Tryd.prog G 109 [.ptr 0 0 0, .d (.str s)] [(0, ⟨148, 2, [.agg [wdf o.addr 0, .slc 1001 0 o.buf.length]]⟩), (1001, ⟨5, 1, dl (wab (PD.int .u8) o.buf)⟩)]
  (.tuple [.d (.int .i64 s.size), .d .niliface]) [(0, ⟨148, 2, [.agg [.ptr 0 0 0, .slc 1001 0 r.buf.length]]⟩), (1001, ⟨5, 1, dl (wab (PD.int .u8) r.buf)⟩)] := by
 unfold wlo at h
 obtain ⟨hg, h⟩ := wai h
 refine ObjFn.pf Tryd.func109 Tryd.ntmps109 ?_
 refine sg fun K k => ?_
 iterate 2 refine oo ?_
 refine AOps.nil (k _ ?_)
 refine sg fun K k => ?_
 refine oo ?_
 refine clU [(0, 0), (1, 1001)] [] (woK o.addr o.buf) ?_
 refine AOps.nil (k _ ?_)
 refine sg fun K k => ?_
 iterate 6 refine oo ?_
 refine on (fun K' hK' => OpT.appendStr (r := 1001) (str := s) (row := ⟨5, 1, dl (wab (PD.int .u8) o.buf)⟩) rfl ty52 T52_desc (by kernel_rfl) ty5 (by kernel_rfl) (by kernel_rfl) (by kernel_rfl) (by rfl) (by rfl) (by simp only [go_sem]) rfl rfl (by decide) (by rfl) (by omega) (by decide) (hK' _ ?_))
 simp only [go_sem, ↓reduceIte]
 iterate 3 refine oo ?_
 refine AOps.nil (k _ ?_)
 refine sg fun K k => ?_
 iterate 4 refine oo ?_
 refine AOps.nil (k _ ?_)
 refine AWp.ret ?_
 cases h
 have e1 : (o.buf ++ wa4 s).length = o.buf.length + s.size := by rw [List.length_append, wdV]
 dsimp only
 rw [e1]
 exact rtO
theorem woZ (o : StringsBuilder) (c : Int) (r : StringsBuilder) (h : wgJ o c = some r) : ObjFn Tryd.prog G 111 [.ptr 0 0 0, .d (.int .u8 c)] [(0, ⟨148, 2, [.agg [wdf o.addr 0, .slc 1001 0 o.buf.length]]⟩), (1001, ⟨5, 1, dl (wab (PD.int .u8) o.buf)⟩)]
  (.d .niliface) [(0, ⟨148, 2, [.agg [.ptr 0 0 0, .slc 1001 0 r.buf.length]]⟩), (1001, ⟨5, 1, dl (wab (PD.int .u8) r.buf)⟩)] := by
 unfold wgJ at h
 obtain ⟨hg, h⟩ := wai h
 refine ObjFn.pf Tryd.func111 Tryd.ntmps111 ?_
 refine sg fun K k => ?_
 iterate 1 refine oo ?_
 refine AOps.nil (k _ ?_)
 refine sg fun K k => ?_
 refine oo ?_
 refine clU [(0, 0), (1, 1001)] [] (woK o.addr o.buf) ?_
 refine AOps.nil (k _ ?_)
 refine sg fun K k => ?_
 iterate 6 refine oo ?_
 refine ol ?_
 iterate 4 refine oo ?_
 refine AOps.nil (k _ ?_)
 refine sg fun K k => ?_
 iterate 1 refine oo ?_
 refine AOps.nil (k _ ?_)
 refine AWp.ret ?_
 cases h
 exact rtO
theorem wrq (o : StringsBuilder) (r : ByteArray) (h : wfP o = some r) (q : PV) (hq : clean q) (hq2 : refsIn [(0, (⟨148, 2, [.agg [q, .slc 1 0 o.buf.length]]⟩ : Row)), (1, (⟨5, 1, dl (wab (PD.int .u8) o.buf)⟩ : Row))] q) : ObjFn Tryd.prog G 112 [.ptr 0 0 0] [(0, ⟨148, 2, [.agg [q, .slc 1 0 o.buf.length]]⟩), (1, ⟨5, 1, dl (wab (PD.int .u8) o.buf)⟩)]
  (.d (.str r)) [(0, ⟨148, 2, [.agg [q, .slc 1 0 o.buf.length]]⟩), (1, ⟨5, 1, dl (wab (PD.int .u8) o.buf)⟩)] := by
 unfold wfP at h
 obtain ⟨⟨hg, hg2⟩, h⟩ := wai h
 cases h
 have hl0 : o.buf.length ≠ 0 := by simpa using hg2
 refine ObjFn.pf Tryd.func112 Tryd.ntmps112 (hrh := ⟨⟨⟨hq2, ⟨rfl, trivial⟩⟩, trivial⟩, wfC _ _, trivial⟩) ?_
 refine sg fun K k => ?_
 refine oo ?_
 refine AOps.nil (k _ ?_)
 refine sd mo fun K k => ?_
 iterate 4 refine dd ?_
 refine dap rfl (by intro K k; refine OpX.sliceData (r := 1) (n := o.buf.length) rfl rfl rfl (by rfl) hl0 (by decide) (by rw [wlN]; trivial) ?_; exact k) ?_
 simp only [go_sem, ↓reduceIte]
 iterate 5 refine dd ?_
 refine dap rfl (by intro K k; refine OpX.mkStr (r := 1) (s := ofI o.buf) rfl rfl rfl rfl (by kernel_rfl) (by kernel_rfl) (by rfl) (by rw [wpz]; rfl) (by rw [wrc hg]; rfl) (by rw [wpz]; exact hl0) (by decide) (by rw [wlN]; trivial) ?_; exact k) ?_
 simp only [go_sem, ↓reduceIte]
 refine dd ?_
 refine DOps.nil (by kernel_rfl) (k _ ?_)
 refine AWp.ret ?_
 exact rtO
theorem wmq (o : StringsBuilder) (r : ByteArray) (h : wfP o = some r) : ObjFn Tryd.prog G 112 [.ptr 0 0 0] [(0, ⟨148, 2, [.agg [wdf o.addr 0, .slc 1 0 o.buf.length]]⟩), (1, ⟨5, 1, dl (wab (PD.int .u8) o.buf)⟩)]
  (.d (.str r)) [(0, ⟨148, 2, [.agg [wdf o.addr 0, .slc 1 0 o.buf.length]]⟩), (1, ⟨5, 1, dl (wab (PD.int .u8) o.buf)⟩)] :=
 wrq o r h _ (by rw [optP_clean]; trivial) (by rw [optP_refs rfl]; trivial)
theorem wtz {B : Base Tryd.prog} {w : World} {φ : Nm} {H : wac} {g : Gh} (hs : Sit G B w φ H g) : Lib.TabIs Tryd.prog w "internal/strconv.uint64pow10" .u64 Lib.pow10Tab := by
 obtain ⟨c, e, f, v, h1, h2, h3, h4, h5, h6⟩ := hs.glob wpA (.agg (Lib.pow10Tab.map (PD.int .u64))) (by simp [G])
 have hg : Tryd.prog.globalNamed "internal/strconv.uint64pow10" = some wpA := by kernel_rfl
 unfold Lib.TabIs World.var?
 rw [hg, Option.bind_some, h1]
 simp only [Option.some.injEq]
 cases h3 with
 | @agg vs _ hsz h hf =>
  have hl : vs.size = Lib.pow10Tab.length := by simpa using hsz
  have e0 : (Value.agg vs).cells = vs := rfl
  rw [e0] at h4 h5
  refine Array.ext (by simp; omega) fun j hj1 hj2 => ?_
  have hj : j < Lib.pow10Tab.length := by omega
  have hj' : j < vs.size := by omega
  have a1 := h j (by simpa using hj)
  simp only [List.getElem_map] at a1
  have a2 := wjP a1
  have a3 := (h5 j hj').1
  rw [a2, Array.getElem?_eq_getElem hj1] at a3
  simp only [Option.some.injEq] at a3
  rw [a3]; simp
theorem wti (n : Int) (r : ByteArray) (h : wlY n = some r) : PureFn Tryd.prog G 110 [.d (.int .i64 n)] (.d (.str r)) := by
 unfold wlY at h
 obtain ⟨⟨hg1, hg2⟩, h⟩ := wai h
 cases h
 intro B φ vs h0 h1 h2 h3
 obtain ⟨v, rfl⟩ : ∃ v, vs = [v] := by
  match vs, h1 with
  | [v], _ => exact ⟨v, rfl⟩
 have hv : RepV B.w0 B.X φ [] v (.d (.int .i64 n)) := h2 0 (by simp)
 obtain rfl := wck hv
 have hc := Tryd.strconv_Itoa n hg1 hg2 B.w0 (wtz h3)
 refine (callsIn_wide.2 hc).mono ?_
 rintro e w' ⟨rfl, k, os, rfl⟩
 refine ⟨_, _, [], none, φ, rfl, ⟨rfl, rfl⟩, .d (.str _), ?_⟩
 exact Sit.more h0 h3 (by simp [Sort.grow]) (fun b hb => won (B.w0.drewN k) os hb) rfl rfl rfl
end Go.Pv.Tryd

namespace Go.Pv.Tryd
open Go.Proofs Go.Pv
set_option maxHeartbeats 4000000 in
theorem wh0 (o1 : Builder) (x1 : Node) (r : (Int × Builder)) (h : wa1 o1 x1 = some r) : ObjFn Tryd.prog G 90 [.ptr 0 0 0, .d (.agg [(.int .i64 x1.Mark), (.imm 1 (wab (PD.int .i64) x1.Cuts)), (.imm 1 (wab (PD.int .i64) x1.To))])] [(0, ⟨92, 5, [.agg [.d (.int .i64 o1.k), .d (.imm 2 (wab Rule.pd o1.rules)), .mp 1, .mp 2, .slc 1003 0 o1.nodes.length]]⟩), (1, ⟨89, 0, wam Arr3_Int.pd (PD.int .i64) o1.known⟩), (2, ⟨90, 0, wam PD.str (PD.int .i64) o1.same⟩), (1003, ⟨37, 3, dl (wab Node.pd o1.nodes)⟩)] (.d (.int .i64 r.1)) [(0, ⟨92, 5, [.agg [.d (.int .i64 r.2.k), .d (.imm 2 (wab Rule.pd r.2.rules)), .mp 1, .mp 2, .slc 1003 0 r.2.nodes.length]]⟩), (1, ⟨89, 0, wam Arr3_Int.pd (PD.int .i64) r.2.known⟩), (2, ⟨90, 0, wam PD.str (PD.int .i64) r.2.same⟩), (1003, ⟨37, 3, dl (wab Node.pd r.2.nodes)⟩)] := by
 unfold wa1 at h
 refine ObjFn.pf Tryd.func90 Tryd.ntmps90 ?_
 refine sg fun K k => ?_
 iterate 2 refine oo ?_
 refine AOps.nil (k _ ?_)
 refine sg fun K k => ?_
 refine oo ?_
 refine AOps.sub (Sub.voidCell 1005 1 5 1 1006 (x := ⟨148, 2, [.d (.agg [.nilptr, .nilslice])]⟩) (p := .d (.agg [.nilptr, .nilslice])) (cs := [.d .nilptr, .d .nilslice]) rfl (Nat.le_of_ble_eq_true rfl) rfl rfl rfl rfl rfl (by decide) (by decide)) ?_
 simp only [waj, List.set_cons_succ, List.set_cons_zero, reduceCtorEq, ↓reduceIte, Nat.reduceAdd, Nat.reduceMul, Nat.reduceLT, Nat.reduceLeDiff, Nat.reduceEqDiff, Nat.reduceBEq, Int.reduceToNat]
 refine AOps.nil (k _ ?_)
 refine jn (α := (Bool × (List Int))) [0, 3] [0, 1, 2, 1003, 1004] (fun i t => (5, .ptr 1005 0 0) :: t) (fun i t => (1005, ⟨148, 2, [.agg [wdf i.1 1005, .slc 1006 0 i.2.length]]⟩) :: (1006, ⟨5, 1, dl (wab (PD.int .u8) i.2)⟩) :: t) h ?_ ?_
 ·intro _ hj_2
  refine sg fun K k => ?_
  iterate 2 refine oo ?_
  refine ol ?_
  iterate 4 refine oo ?_
  refine ol ?_
  refine AOps.sub (τ := ⟨[(0, .ptr 0 0 0), (3, .ptr 1004 0 0), (5, .ptr 1005 0 0), (19, .d (.imm 1 (wab (wdj 1 (PD.int .i64)) [[x1.Mark], x1.Cuts, x1.To])))], [(0, ⟨92, 5, [.agg [.d (.int .i64 o1.k), .d (.imm 2 (wab Rule.pd o1.rules)), .mp 1, .mp 2, .slc 1003 0 o1.nodes.length]]⟩), (1, ⟨89, 0, wam Arr3_Int.pd (PD.int .i64) o1.known⟩), (2, ⟨90, 0, wam PD.str (PD.int .i64) o1.same⟩), (1003, ⟨37, 3, dl (wab Node.pd o1.nodes)⟩), (1004, ⟨37, 3, [.d (.agg [(.int .i64 x1.Mark), (.imm 1 (wab (PD.int .i64) x1.Cuts)), (.imm 1 (wab (PD.int .i64) x1.To))])]⟩), (1005, ⟨148, 2, [.agg [.d .nilptr, .slc 1006 0 0]]⟩), (1006, ⟨5, 1, dl (wab (PD.int .u8) [])⟩)], [], none⟩) sb ?_
  iterate 2 refine oo ?_
  refine AOps.nil (k _ ?_)
  refine AWp.block ?_
  obtain ⟨x_7, hl_4, h2_5⟩ := bind_some hj_2
  refine lp (S := (Int × Bool × (List Int))) [0, 3, 19, 20] [0, 1, 2, 1003, 1004] (fun i t => (5, .ptr 1005 0 0) :: (21, .d (.int .i64 i.1)) :: t) (fun i t => (1005, ⟨148, 2, [.agg [wdf i.2.1 1005, .slc 1006 0 i.2.2.length]]⟩) :: (1006, ⟨5, 1, dl (wab (PD.int .u8) i.2.2)⟩) :: t) hl_4 ?_ ?_; exact sb; clear hl_4
  rintro ⟨v1, c2, L2⟩ _ hb_6; unfold waM at hb_6; try dsimp only at hb_6
  try dsimp only
  refine sg fun K k => ?_
  refine oo ?_
  refine AOps.nil (k _ ?_)
  refine AWp.seq fun _ K_9 => ?_
  refine cd hb_6 (fun hb_6 => ?_) (fun hb_6 => ?_)
  ·refine AWp.skip ?_
   refine K_9 _ ?_
   refine jn (α := (Bool × (List Int))) [0, 3, 19, 20, 21] [0, 1, 2, 1003, 1004] (fun i t => (5, .ptr 1005 0 0) :: t) (fun i t => (1005, ⟨148, 2, [.agg [wdf i.1 1005, .slc 1006 0 i.2.length]]⟩) :: (1006, ⟨5, 1, dl (wab (PD.int .u8) i.2)⟩) :: t) hb_6 ?_ ?_
   ·intro _ hj_12
    refine AWp.block ?_
    refine sg fun K k => ?_
    obtain ⟨e1, ⟨f_13, f_14, f_15, f_16⟩, hj_12⟩ := wak hj_12
    try simp only [List.length_append, List.length_set, List.length_replicate, List.length_cons, List.length_nil] at f_14 f_16
    refine oo ?_
    refine oo ?_ (by intro K k; simp (disch := omega) only [go_sem, f_15, ↓reduceIte]; exact k)
    refine oo ?_
    refine AOps.nil (k _ ?_)
    refine jn (α := (Bool × (List Int))) [0, 3, 19, 20, 21] [0, 1, 2, 1003, 1004] (fun i t => (5, .ptr 1005 0 0) :: t) (fun i t => (1005, ⟨148, 2, [.agg [wdf i.1 1005, .slc 1006 0 i.2.length]]⟩) :: (1006, ⟨5, 1, dl (wab (PD.int .u8) i.2)⟩) :: t) hj_12 ?_ ?_
    ·intro _ hj_18
     refine sg fun K k => ?_
     iterate 3 refine oo ?_
     refine AOps.nil (k _ ?_)
     refine AWp.block ?_
     obtain ⟨x_23, hl_20, h2_21⟩ := bind_some hj_18
     refine lp (S := (Int × Bool × (List Int))) [0, 3, 19, 20, 21, 25, 26] [0, 1, 2, 1003, 1004] (fun i t => (5, .ptr 1005 0 0) :: (27, .d (.int .i64 i.1)) :: t) (fun i t => (1005, ⟨148, 2, [.agg [wdf i.2.1 1005, .slc 1006 0 i.2.2.length]]⟩) :: (1006, ⟨5, 1, dl (wab (PD.int .u8) i.2.2)⟩) :: t) hl_20 ?_ ?_; exact sb; clear hl_20
     rintro ⟨v2, c5, L5⟩ _ hb_22; unfold waW at hb_22; try dsimp only at hb_22
     try dsimp only
     refine sg fun K k => ?_
     refine oo ?_
     refine AOps.nil (k _ ?_)
     refine AWp.seq fun _ K_25 => ?_
     refine cd hb_22 (fun hb_22 => ?_) (fun hb_22 => ?_)
     ·refine AWp.skip ?_
      refine K_25 _ ?_
      refine AWp.seq fun _ K_27 => ?_
      refine AWp.block ?_
      refine sg fun K k => ?_
      obtain ⟨e2, ⟨f_28, f_29, f_30, f_31⟩, hb_22⟩ := wak hb_22
      refine oo ?_
      refine oo ?_ (by intro K k; simp (disch := omega) only [go_sem, f_30, ↓reduceIte]; exact k)
      refine oo ?_
      refine AOps.nil (k _ ?_)
      refine AWp.reg ?_
      refine oo ?_
      obtain ⟨r1, hx_32, hb_22⟩ := bind_some hb_22
      refine cl (wti e2 _ hx_32) ?_
      obtain ⟨hg_33, hb_22⟩ := wai hb_22
      refine oo ?_
      obtain ⟨r2, hx_34, hb_22⟩ := bind_some hb_22
      refine clU [(0, 1005), (1001, 1006)] [1006] (wr2 (⟨c5, L5⟩ : StringsBuilder) (r1 ++ (⟨#[32]⟩ : ByteArray)) _ hx_34) ?_
      refine AOps.nil ?_
      refine K_27 _ ?_
      refine AWp.reg ?_
      iterate 2 refine oo ?_
      refine AOps.nil ?_
      exact ln hb_22 sb
     ·refine AWp.exit ?_
      refine lx hb_22 fun hx => ?_; cases hx; try dsimp only at h2_21
      cases h2_21; exact sb
    ·rintro ⟨c4, L4⟩ hj_12; dsimp only at hj_12 ⊢
     refine AWp.reg ?_
     obtain ⟨r3, hx_35, hj_12⟩ := bind_some hj_12
     refine clU [(0, 1005), (1001, 1006)] [1006] (woZ (⟨c4, L4⟩ : StringsBuilder) 124 _ hx_35) ?_
     refine AOps.nil ?_
     cases hj_12; exact sb
   ·rintro ⟨c3, L3⟩ hb_6; dsimp only at hb_6 ⊢
    refine AWp.reg ?_
    iterate 2 refine oo ?_
    refine AOps.nil ?_
    exact ln hb_6 sb
  ·refine AWp.exit ?_
   refine lx hb_6 fun hx => ?_; cases hx; try dsimp only at h2_5
   cases h2_5; exact sb
 ·rintro ⟨c1, L1⟩ h; dsimp only at h ⊢
  refine sd mo fun K k => ?_
  iterate 4 refine dd ?_
  obtain ⟨r4, hx_36, h⟩ := bind_some h
  refine wtq [(0, 1005), (1, 1006)] (wmq (⟨c1, L1⟩ : StringsBuilder) _ hx_36) ?_
  refine DOps.bar (by kernel_rfl) ?_
  refine BOps.hard (by kernel_rfl) ?_
  refine oml (k := r4) (L := o1.same) (v0 := 0) (encV := (PD.int .i64)) KE9 wtt ty3 MZ3 (fun _ _ => .int _ _) ?_
  refine AOps.nil ?_
  refine BOps.draw [] trivial (Nat.le_of_ble_eq_true rfl) ?_
  iterate 5 refine dd ?_
  refine DOps.nil (by kernel_rfl) (k _ ?_)
  refine jn (α := (Int × (List (ByteArray × Int)) × (List Node))) [] [1] (fun i t => (10, .d (.int .i64 i.1)) :: t) (fun i t => (0, ⟨92, 5, [.agg [.d (.int .i64 o1.k), .d (.imm 2 (wab Rule.pd o1.rules)), .mp 1, .mp 2, .slc 1003 0 i.2.2.length]]⟩) :: (2, ⟨90, 0, wam PD.str (PD.int .i64) i.2.1⟩) :: (1003, ⟨37, 3, dl (wab Node.pd i.2.2)⟩) :: t) h ?_ ?_
  ·intro _ hj_38
   refine sg fun K k => ?_
   iterate 2 refine oo ?_
   refine AOps.nil (k _ ?_)
   refine cd hj_38 (fun hj_38 => ?_) (fun hj_38 => ?_)
   ·refine sg fun K k => ?_
    iterate 6 refine oo ?_
    refine AOps.nil (k _ ?_)
    refine sd mo fun K k => ?_
    iterate 4 refine dd ?_
    obtain ⟨r5, hx_40, hj_38⟩ := bind_some hj_38
    refine wtq [(0, 1005), (1, 1006)] (wmq (⟨c1, L1⟩ : StringsBuilder) _ hx_40) ?_
    refine dd ?_
    refine DOps.stop (by kernel_rfl) ?_
    refine oms (k := r5) (L := o1.same) (v := (o1.nodes.length : Int)) (encV := (PD.int .i64)) KE9 wtt ?_
    refine AOps.nil (k _ ?_)
    refine AWp.sub (τ := ⟨[(0, .ptr 0 0 0), (3, .ptr 1004 0 0), (5, .ptr 1005 0 0), (10, .d (.int .i64 (o1.nodes.length : Int))), (11, .d (.bool ((waE r4 o1.same).isSome))), (38, .tuple [.d (.int .i64 ((waE r4 o1.same).getD 0)), .d (.bool ((waE r4 o1.same).isSome))]), (39, .ptr 0 0 0), (40, .ptr 0 0 0), (41, .ptr 0 0 3), (42, .mp 2), (43, .d (.str r4)), (44, .tuple [.d (.int .i64 ((waE r4 o1.same).getD 0)), .d (.bool ((waE r4 o1.same).isSome))]), (45, .d (.int .i64 ((waE r4 o1.same).getD 0))), (46, .d (.bool ((waE r4 o1.same).isSome))), (47, .d (.bool ((waE r4 o1.same).isSome))), (48, .d (.bool (!((waE r4 o1.same).isSome)))), (49, .ptr 0 0 0), (50, .ptr 0 0 0), (51, .ptr 0 0 4), (53, .d (.int .i64 (o1.nodes.length : Int))), (54, .ptr 0 0 0), (55, .ptr 0 0 0), (56, .ptr 0 0 3), (57, .mp 2), (58, .d (.str r5)), (59, .d (.int .i64 (o1.nodes.length : Int)))], [(0, ⟨92, 5, [.agg [.d (.int .i64 o1.k), .d (.imm 2 (wab Rule.pd o1.rules)), .mp 1, .mp 2, .slc 1003 0 o1.nodes.length]]⟩), (1, ⟨89, 0, wam Arr3_Int.pd (PD.int .i64) o1.known⟩), (2, ⟨90, 0, wam PD.str (PD.int .i64) (wcC r5 (o1.nodes.length : Int) o1.same)⟩), (1003, ⟨37, 3, dl (wab Node.pd o1.nodes)⟩), (1004, ⟨37, 3, [.d (.agg [(.int .i64 x1.Mark), (.imm 1 (wab (PD.int .i64) x1.Cuts)), (.imm 1 (wab (PD.int .i64) x1.To))])]⟩), (1005, ⟨148, 2, [.agg [wdf c1 1005, .slc 1006 0 L1.length]]⟩), (1006, ⟨5, 1, dl (wab (PD.int .u8) L1)⟩)], [], none⟩) sb ?_
    refine drX mo [(1003, [64, 67, 1000000])] ?_
    iterate 6 (refine dd ?_ (by intro K k; simp (disch := omega) only [go_sem, true_or, or_true, and_self, true_and, and_true, ↓reduceIte]; exact k))
    refine ddl ?_ (by intro K k; simp (disch := omega) only [go_sem, true_or, or_true, and_self, true_and, and_true, ↓reduceIte]; exact k)
    obtain ⟨hg_41, hj_38⟩ := wai hj_38
    refine wso [64, 67, 1000000] [(0, ⟨92, 5, [.agg [.d (.int .i64 o1.k), .d (.imm 2 (wab Rule.pd o1.rules)), .mp 1, .mp 2, .slc 1003 0 o1.nodes.length]]⟩)] (dl (wab Node.pd [x1])) se32 ?_
    iterate 3 (refine dd ?_ (by intro K k; simp (disch := omega) only [go_sem, true_or, or_true, and_self, true_and, and_true, ↓reduceIte]; exact k))
    refine DOps.nil (by kernel_rfl) ?_
    cases hj_38; exact sb
   ·refine AWp.skip ?_
    cases hj_38; exact sb
  ·rintro ⟨n1, M1, L6⟩ h; dsimp only at h ⊢
   refine sg fun K k => ?_
   iterate 2 refine oo ?_
   refine AOps.nil (k _ ?_)
   refine AWp.ret ?_
   cases h; exact rtO
end Go.Pv.Tryd

namespace Go.Pv.Tryd
open Go.Proofs Go.Pv
set_option maxHeartbeats 4000000 in
theorem wiE (n : Nat) : ∀ (o1 : Builder) (mark1 : Int) (a1 : Int) (r : (Int × Builder)) (h : waZ n o1 mark1 a1 = some r), ObjFn Tryd.prog G 57 [.ptr 0 0 0, .d (.int .i64 mark1), .d (.int .u32 a1)] [(0, ⟨92, 5, [.agg [.d (.int .i64 o1.k), .d (.imm 2 (wab Rule.pd o1.rules)), .mp 1, .mp 2, .slc 1003 0 o1.nodes.length]]⟩), (1, ⟨89, 0, wam Arr3_Int.pd (PD.int .i64) o1.known⟩), (2, ⟨90, 0, wam PD.str (PD.int .i64) o1.same⟩), (1003, ⟨37, 3, dl (wab Node.pd o1.nodes)⟩)] (.d (.int .i64 r.1)) [(0, ⟨92, 5, [.agg [.d (.int .i64 r.2.k), .d (.imm 2 (wab Rule.pd r.2.rules)), .mp 1, .mp 2, .slc 1003 0 r.2.nodes.length]]⟩), (1, ⟨89, 0, wam Arr3_Int.pd (PD.int .i64) r.2.known⟩), (2, ⟨90, 0, wam PD.str (PD.int .i64) r.2.same⟩), (1003, ⟨37, 3, dl (wab Node.pd r.2.nodes)⟩)] := by
 induction n with
 | zero => intro o1 mark1 a1 r h; cases h
 | succ n ih =>
  intro o1 mark1 a1 r h
  replace h : wbw (waZ n) o1 mark1 a1 = some r := h
  unfold wbw at h
  refine ObjFn.pf Tryd.func57 Tryd.ntmps57 ?_
  refine sg fun K k => ?_
  refine oo ?_
  refine AOps.nil (k _ ?_)
  refine AWp.seq fun _ K_1 => ?_
  refine sg fun K k => ?_
  iterate 6 refine oo ?_
  refine AOps.nil (k _ ?_)
  refine cd h (fun h => ?_) (fun h => ?_)
  ·refine sg fun K k => ?_
   iterate 2 refine oo ?_
   obtain ⟨r1, hx_3, h⟩ := bind_some h
   refine clU [(0, 0), (1, 1), (2, 2), (1003, 1003)] [1003] (whZ o1 a1 _ hx_3) ?_
   refine oo ?_
   refine AOps.nil (k _ ?_)
   refine AWp.ret ?_
   cases h; exact rtO
  ·refine AWp.skip ?_
   refine K_1 _ ?_
   refine sg fun K k => ?_
   iterate 6 refine oo ?_
   refine AOps.nil (k _ ?_)
   refine AWp.seq fun _ K_4 => ?_
   refine sd mo fun K k => ?_
   iterate 5 refine dd ?_
   refine DOps.bar (by kernel_rfl) ?_
   refine BOps.hard (by kernel_rfl) ?_
   refine oml (k := (⟨mark1, (IntKind.i64.wrap a1), 0⟩ : Arr3_Int)) (L := o1.known) (v0 := 0) (encV := (PD.int .i64)) wiW wts ty3 MZ3 (fun _ _ => .int _ _) ?_
   refine AOps.nil ?_
   refine BOps.draw [] trivial (Nat.le_of_ble_eq_true rfl) ?_
   iterate 5 refine dd ?_
   refine DOps.nil (by kernel_rfl) (k _ ?_)
   refine sg fun K k => ?_
   refine oo ?_
   refine AOps.nil (k _ ?_)
   refine cd h (fun h => ?_) (fun h => ?_)
   ·refine sg fun K k => ?_
    iterate 2 refine oo ?_
    refine AOps.nil (k _ ?_)
    refine AWp.ret ?_
    cases h; exact rtO
   ·refine AWp.skip ?_
    refine K_4 _ ?_
    refine sg fun K k => ?_
    iterate 5 refine oo ?_
    refine ol ?_
    obtain ⟨r2, hx_6, h⟩ := bind_some h
    refine cl (wfc mark1 [o1.rules] _ hx_6) ?_
    refine oo ?_
    refine AOps.nil (k _ ?_)
    refine sg fun K k => ?_
    refine oo ?_
    refine AOps.nil (k _ ?_)
    refine AWp.sub (Sub.void 11 3 1 1005 (by rfl) (by rfl) (by decide) (by decide)) ?_
    simp only [wd1, waj, reduceCtorEq, ↓reduceIte, Nat.reduceAdd, Nat.reduceMul, Nat.reduceLT, Nat.reduceLeDiff, Nat.reduceEqDiff, Nat.reduceBEq, Int.reduceToNat]
    refine sg fun K k => ?_
    refine oo ?_
    refine AOps.nil (k _ ?_)
    refine jn (α := (Int × (List Rule) × (List (Arr3_Int × Int)) × (List (ByteArray × Int)) × (List Node) × (List Int))) [1, 7, 10] [1004] (fun i t => (0, .ptr 0 0 0) :: (11, .slc 1005 0 i.2.2.2.2.2.length) :: t) (fun i t => (0, ⟨92, 5, [.agg [.d (.int .i64 i.1), .d (.imm 2 (wab Rule.pd i.2.1)), .mp 1, .mp 2, .slc 1003 0 i.2.2.2.2.1.length]]⟩) :: (1, ⟨89, 0, wam Arr3_Int.pd (PD.int .i64) i.2.2.1⟩) :: (2, ⟨90, 0, wam PD.str (PD.int .i64) i.2.2.2.1⟩) :: (1003, ⟨37, 3, dl (wab Node.pd i.2.2.2.2.1)⟩) :: (1005, ⟨3, 1, dl (wab (PD.int .i64) i.2.2.2.2.2)⟩) :: t) h ?_ ?_
    ·intro _ hj_8
     refine sg fun K k => ?_
     iterate 3 refine oo ?_
     refine AOps.nil (k _ ?_)
     refine AWp.block ?_
     obtain ⟨x_13, hl_10, h2_11⟩ := bind_some hj_8
     refine lp (S := (Int × Int × Int × (List Rule) × (List (Arr3_Int × Int)) × (List (ByteArray × Int)) × (List Node) × (List Int))) [1, 2, 7, 10, 49, 50] [1004] (fun i t => (0, .ptr 0 0 0) :: (11, .slc 1005 0 i.2.2.2.2.2.2.2.length) :: (12, .d (.int .i64 i.1)) :: (51, .d (.int .i64 i.2.1)) :: t) (fun i t => (0, ⟨92, 5, [.agg [.d (.int .i64 i.2.2.1), .d (.imm 2 (wab Rule.pd i.2.2.2.1)), .mp 1, .mp 2, .slc 1003 0 i.2.2.2.2.2.2.1.length]]⟩) :: (1, ⟨89, 0, wam Arr3_Int.pd (PD.int .i64) i.2.2.2.2.1⟩) :: (2, ⟨90, 0, wam PD.str (PD.int .i64) i.2.2.2.2.2.1⟩) :: (1003, ⟨37, 3, dl (wab Node.pd i.2.2.2.2.2.2.1)⟩) :: (1005, ⟨3, 1, dl (wab (PD.int .i64) i.2.2.2.2.2.2.2)⟩) :: t) hl_10 ?_ ?_; exact sb; clear hl_10
     rintro ⟨from1, v1, c3, c4, M3, M4, L3, L4⟩ _ hb_12; unfold wba at hb_12; try dsimp only at hb_12
     try dsimp only
     refine sg fun K k => ?_
     refine oo ?_
     refine AOps.nil (k _ ?_)
     refine AWp.seq fun _ K_15 => ?_
     refine cd hb_12 (fun hb_12 => ?_) (fun hb_12 => ?_)
     ·refine AWp.skip ?_
      refine K_15 _ ?_
      refine AWp.seq fun _ K_17 => ?_
      refine AWp.block ?_
      refine sg fun K k => ?_
      obtain ⟨e1, ⟨f_18, f_19, f_20, f_21⟩, hb_12⟩ := wak hb_12
      refine oo ?_
      refine oo ?_ (by intro K k; simp (disch := omega) only [go_sem, f_20, ↓reduceIte]; exact k)
      refine oo ?_
      refine AOps.nil (k _ ?_)
      refine sg fun K k => ?_
      iterate 11 refine oo ?_
      obtain ⟨r3, hx_22, hb_12⟩ := bind_some hb_12
      refine cl (wdz c4 mark1 from1 _ hx_22) ?_
      refine oo ?_
      obtain ⟨r4, hx_23, hb_12⟩ := bind_some hb_12
      refine clU [(0, 0), (1, 1), (2, 2), (1003, 1003)] [1003] (ih (⟨c3, c4, M3, M4, L3⟩ : Builder) (IntKind.i64.wrap (mark1 + 1)) (IntKind.u32.wrap ↑(BitVec.ofInt IntKind.u32.bits a1 &&& BitVec.ofInt IntKind.u32.bits r3).toNat) _ hx_23) ?_
      refine ol ?_
      obtain ⟨hg_24, hb_12⟩ := wai hb_12
      iterate 2 refine oo ?_
      refine AOps.nil (k _ ?_)
      refine AWp.reg ?_
      iterate 2 refine oo ?_
      refine AOps.nil ?_
      refine K_17 _ ?_
      refine AWp.reg ?_
      iterate 2 refine oo ?_
      refine AOps.nil ?_
      exact ln hb_12 sb
     ·refine AWp.exit ?_
      refine lx hb_12 fun hx => ?_; cases hx; try dsimp only at h2_11
      cases h2_11; exact sb
    ·rintro ⟨c1, c2, M1, M2, L1, L2⟩ h; dsimp only at h ⊢
     refine sg fun K k => ?_
     iterate 2 refine oo ?_
     refine AOps.sub (τ := ⟨[(0, .ptr 0 0 0), (1, .d (.int .i64 mark1)), (7, .ptr 1004 0 0), (74, .d (.imm 1 (wab (PD.int .i64) r2))), (75, .d (.imm 1 (wab (PD.int .i64) L2)))], [(0, ⟨92, 5, [.agg [.d (.int .i64 c1), .d (.imm 2 (wab Rule.pd c2)), .mp 1, .mp 2, .slc 1003 0 L1.length]]⟩), (1, ⟨89, 0, wam Arr3_Int.pd (PD.int .i64) M1⟩), (2, ⟨90, 0, wam PD.str (PD.int .i64) M2⟩), (1003, ⟨37, 3, dl (wab Node.pd L1)⟩), (1004, ⟨121, 3, [.d (.agg [(.int .i64 mark1), (.int .i64 (IntKind.i64.wrap a1)), (.int .i64 0)])]⟩)], [], none⟩) sc ?_
     obtain ⟨r5, hx_25, h⟩ := bind_some h
     refine cl (wlH r2 L2 _ hx_25) ?_
     iterate 5 refine oo ?_
     refine AOps.nil (k _ ?_)
     refine sg fun K k => ?_
     obtain ⟨e2, ⟨f_26, f_27, f_28, f_29⟩, h⟩ := wak h
     try simp only [Int.reduceToNat] at f_28 f_29
     iterate 2 refine oo ?_
     refine oo ?_ (by intro K k; simp (disch := omega) only [go_sem, f_28, ↓reduceIte]; exact k)
     refine oo ?_
     refine AOps.nil (k _ ?_)
     refine jn (α := (Int × Int × (List Rule) × (List (Arr3_Int × Int)) × (List (ByteArray × Int)) × (List Node))) [7] [1004] (fun i t => (0, .ptr 0 0 0) :: (17, .d (.int .i64 i.1)) :: t) (fun i t => (0, ⟨92, 5, [.agg [.d (.int .i64 i.2.1), .d (.imm 2 (wab Rule.pd i.2.2.1)), .mp 1, .mp 2, .slc 1003 0 i.2.2.2.2.2.length]]⟩) :: (1, ⟨89, 0, wam Arr3_Int.pd (PD.int .i64) i.2.2.2.1⟩) :: (2, ⟨90, 0, wam PD.str (PD.int .i64) i.2.2.2.2.1⟩) :: (1003, ⟨37, 3, dl (wab Node.pd i.2.2.2.2.2)⟩) :: t) h ?_ ?_
     ·intro _ hj_31
      refine sg fun K k => ?_
      iterate 3 refine oo ?_
      refine AOps.nil (k _ ?_)
      refine cd hj_31 (fun hj_31 => ?_) (fun hj_31 => ?_)
      ·refine AWp.reg ?_
       iterate 5 refine oo ?_
       refine AOps.sub (τ := ⟨[(0, .ptr 0 0 0), (7, .ptr 1004 0 0), (85, .ptr 0 0 0), (89, .d (.agg [(.int .i64 mark1), (.imm 1 (wab (PD.int .i64) r5.1)), (.imm 1 (wab (PD.int .i64) r5.2))]))], [(0, ⟨92, 5, [.agg [.d (.int .i64 c1), .d (.imm 2 (wab Rule.pd c2)), .mp 1, .mp 2, .slc 1003 0 L1.length]]⟩), (1, ⟨89, 0, wam Arr3_Int.pd (PD.int .i64) M1⟩), (2, ⟨90, 0, wam PD.str (PD.int .i64) M2⟩), (1003, ⟨37, 3, dl (wab Node.pd L1)⟩), (1004, ⟨121, 3, [.d (.agg [(.int .i64 mark1), (.int .i64 (IntKind.i64.wrap a1)), (.int .i64 0)])]⟩)], [], none⟩) sb ?_
       obtain ⟨r6, hx_33, hj_31⟩ := bind_some hj_31
       refine clU [(0, 0), (1, 1), (2, 2), (1003, 1003)] [1003] (wh0 (⟨c1, c2, M1, M2, L1⟩ : Builder) (⟨mark1, r5.1, r5.2⟩ : Node) _ hx_33) ?_
       refine oo ?_
       refine AOps.nil ?_
       cases hj_31; exact sb
      ·refine AWp.skip ?_
       cases hj_31; exact sb
     ·rintro ⟨n1, c5, c6, M5, M6, L5⟩ h; dsimp only at h ⊢
      refine sd mo fun K k => ?_
      iterate 6 refine dd ?_
      refine DOps.stop (by kernel_rfl) ?_
      refine oms (k := (⟨mark1, (IntKind.i64.wrap a1), 0⟩ : Arr3_Int)) (L := M5) (v := n1) (encV := (PD.int .i64)) wiW wts ?_
      refine AOps.nil (k _ ?_)
      refine sg fun K k => ?_
      iterate 2 refine oo ?_
      refine AOps.nil (k _ ?_)
      refine AWp.ret ?_
      cases h; exact rtO
end Go.Pv.Tryd

namespace Go.Pv.Tryd
open Go.Proofs Go.Pv
theorem wgx (n : Nat) : ∀ (m1 : (List (Int × Int))) (l1 : (List Node)) (o1 : Builder) (n1 : Int) (r : (Int × (List (Int × Int)) × (List Node))) (h : waH n m1 l1 o1 n1 = some r), ObjFn Tryd.prog G 91 [.d (.int .i64 n1), .ptr 0 0 0, .ptr 1 0 0, .ptr 2 0 0, .ptr 3 0 0] (waz 0 (waL Node.sub l1) ([(0, ⟨133, 1, [.mp 4]⟩), (1, ⟨32, 1, [.slc 1005 0 l1.length]⟩), (2, ⟨88, 1, [.ptr 6 0 0]⟩), (3, ⟨124, 1, [.func (.func 91) [.ptr 0 0 0, .ptr 1 0 0, .ptr 2 0 0, .ptr 3 0 0]]⟩), (4, ⟨133, 0, wam (PD.int .i64) (PD.int .i64) m1⟩), (1005, ⟨37, 3, wbt 0 Node.npv l1⟩), (6, ⟨92, 5, [.agg [.d (.int .i64 o1.k), .d (.imm 2 (wab Rule.pd o1.rules)), .mp 7, .mp 8, .slc 1009 0 o1.nodes.length]]⟩), (7, ⟨89, 0, wam Arr3_Int.pd (PD.int .i64) o1.known⟩), (8, ⟨90, 0, wam PD.str (PD.int .i64) o1.same⟩), (1009, ⟨37, 3, dl (wab Node.pd o1.nodes)⟩)])) (.d (.int .i64 r.1)) (waz 0 (waL Node.sub r.2.2) ([(0, ⟨133, 1, [.mp 4]⟩), (1, ⟨32, 1, [.slc 1005 0 r.2.2.length]⟩), (2, ⟨88, 1, [.ptr 6 0 0]⟩), (3, ⟨124, 1, [.func (.func 91) [.ptr 0 0 0, .ptr 1 0 0, .ptr 2 0 0, .ptr 3 0 0]]⟩), (4, ⟨133, 0, wam (PD.int .i64) (PD.int .i64) r.2.1⟩), (1005, ⟨37, 3, wbt 0 Node.npv r.2.2⟩), (6, ⟨92, 5, [.agg [.d (.int .i64 o1.k), .d (.imm 2 (wab Rule.pd o1.rules)), .mp 7, .mp 8, .slc 1009 0 o1.nodes.length]]⟩), (7, ⟨89, 0, wam Arr3_Int.pd (PD.int .i64) o1.known⟩), (8, ⟨90, 0, wam PD.str (PD.int .i64) o1.same⟩), (1009, ⟨37, 3, dl (wab Node.pd o1.nodes)⟩)])) := by
 induction n with
 | zero => intro m1 l1 o1 n1 r h; cases h
 | succ n ih =>
  intro m1 l1 o1 n1 r h
  replace h : waT (waH n) m1 l1 o1 n1 = some r := h
  unfold waT at h
  refine ObjFn.pf Tryd.func91 Tryd.ntmps91 ?_
  refine sg fun K k => ?_
  refine oo ?_
  refine AOps.nil (k _ ?_)
  refine AWp.seq fun _ K_1 => ?_
  refine sg fun K k => ?_
  iterate 2 refine oo ?_
  refine AOps.nil (k _ ?_)
  refine cd h (fun h => ?_) (fun h => ?_)
  ·refine sg fun K k => ?_
   iterate 2 refine oo ?_
   refine AOps.nil (k _ ?_)
   refine AWp.ret ?_
   cases h; exact rtO
  ·refine AWp.skip ?_
   refine K_1 _ ?_
   refine AWp.seq fun _ K_3 => ?_
   refine sg fun K k => ?_
   iterate 2 refine oo ?_
   refine oml (k := n1) (L := m1) (v0 := 0) (encV := (PD.int .i64)) KE3 wsT ty3 MZ3 (fun _ _ => .int _ _) ?_
   iterate 5 refine oo ?_
   refine AOps.nil (k _ ?_)
   refine sg fun K k => ?_
   refine oo ?_
   refine AOps.nil (k _ ?_)
   refine cd h (fun h => ?_) (fun h => ?_)
   ·refine sg fun K k => ?_
    iterate 2 refine oo ?_
    refine AOps.nil (k _ ?_)
    refine AWp.ret ?_
    cases h; exact rtO
   ·refine AWp.skip ?_
    refine K_3 _ ?_
    refine sg fun K k => ?_
    iterate 3 refine oo ?_
    refine AOps.nil (k _ ?_)
    refine sg fun K k => ?_
    iterate 3 refine oo ?_
    refine oms (k := n1) (L := m1) (v := (l1.length : Int)) (encV := (PD.int .i64)) KE3 wsT ?_
    refine AOps.nil (k _ ?_)
    refine AWp.sub (τ := ⟨[(0, .d (.int .i64 n1)), (1, .ptr 0 0 0), (2, .ptr 1 0 0), (3, .ptr 2 0 0), (4, .ptr 3 0 0), (6, .d (.int .i64 0)), (7, .d (.int .i64 ((waE n1 m1).getD 0))), (8, .d (.bool ((waE n1 m1).isSome))), (9, .d (.int .i64 (l1.length : Int))), (13, .d (.int .i64 n1)), (14, .d (.bool (decide (n1 < 0)))), (16, .tuple [.d (.int .i64 ((waE n1 m1).getD 0)), .d (.bool ((waE n1 m1).isSome))]), (17, .mp 4), (18, .d (.int .i64 n1)), (19, .tuple [.d (.int .i64 ((waE n1 m1).getD 0)), .d (.bool ((waE n1 m1).isSome))]), (20, .d (.int .i64 ((waE n1 m1).getD 0))), (21, .d (.bool ((waE n1 m1).isSome))), (22, .d (.bool ((waE n1 m1).isSome))), (25, .d (.int .i64 (l1.length : Int))), (26, .mp 4), (27, .d (.int .i64 n1)), (28, .d (.int .i64 (l1.length : Int)))], (waz 0 (waL Node.sub l1) ([(0, ⟨133, 1, [.mp 4]⟩), (1, ⟨32, 1, [.slc 1005 0 l1.length]⟩), (2, ⟨88, 1, [.ptr 6 0 0]⟩), (3, ⟨124, 1, [.func (.func 91) [.ptr 0 0 0, .ptr 1 0 0, .ptr 2 0 0, .ptr 3 0 0]]⟩), (4, ⟨133, 0, wam (PD.int .i64) (PD.int .i64) (wcC n1 (l1.length : Int) m1)⟩), (1005, ⟨37, 3, wbt 0 Node.npv l1⟩), (6, ⟨92, 5, [.agg [.d (.int .i64 o1.k), .d (.imm 2 (wab Rule.pd o1.rules)), .mp 7, .mp 8, .slc 1009 0 o1.nodes.length]]⟩), (7, ⟨89, 0, wam Arr3_Int.pd (PD.int .i64) o1.known⟩), (8, ⟨90, 0, wam PD.str (PD.int .i64) o1.same⟩), (1009, ⟨37, 3, dl (wab Node.pd o1.nodes)⟩)])), [], none⟩) sb ?_
    refine sdX mo [(1005, [29, 49, 1000001])] fun K k => ?_
    obtain ⟨e1, ⟨f_5, f_6, f_7, f_8⟩, h⟩ := wak h
    iterate 8 (refine dd ?_ (by intro K k; simp (disch := omega) only [go_sem, true_or, or_true, and_self, true_and, and_true, ↓reduceIte]; exact k))
    refine dd ?_ (by intro K k; simp (disch := omega) only [go_sem, f_7, true_or, or_true, and_self, true_and, and_true, ↓reduceIte]; exact k)
    iterate 7 (refine dd ?_ (by intro K k; simp (disch := omega) only [go_sem, true_or, or_true, and_self, true_and, and_true, ↓reduceIte]; exact k))
    refine dd ?_ (by intro K k; simp (disch := omega) only [go_sem, f_7, true_or, or_true, and_self, true_and, and_true, ↓reduceIte]; exact k)
    obtain ⟨r1, hx_9, h⟩ := bind_some h
    refine dcl (RowFn.pure (wp7 e1.Cuts _ hx_9)) ?_
    refine dd ?_ (by intro K k; simp (disch := omega) only [go_sem, true_or, or_true, and_self, true_and, and_true, ↓reduceIte]; exact k)
    refine ddl ?_ (by intro K k; simp (disch := omega) only [go_sem, true_or, or_true, and_self, true_and, and_true, ↓reduceIte]; exact k)
    obtain ⟨hg_10, h⟩ := wai h
    refine wso [29, 49, 1000001] [(1, ⟨32, 1, [.slc 1005 0 l1.length]⟩)] [.d (.agg [(.int .i64 e1.Mark), (.imm 1 (wab (PD.int .i64) r1)), .nilslice])] se32 ?_
    refine dd ?_ (by intro K k; simp (disch := omega) only [go_sem, true_or, or_true, and_self, true_and, and_true, ↓reduceIte]; exact k)
    refine DOps.nil (by kernel_rfl) (k _ ?_)
    refine AWp.sub (psh 0 1005 2 (⟨e1.Mark, r1, []⟩ : Node)) ?_
    refine jn (α := ((List (Int × Int)) × (List Node))) [9] [2, 3, 6, 7, 8, 1009] (fun i t => t) (fun i t => waz 0 (waL Node.sub i.2) ((0, ⟨133, 1, [.mp 4]⟩) :: (1, ⟨32, 1, [.slc 1005 0 i.2.length]⟩) :: (4, ⟨133, 0, wam (PD.int .i64) (PD.int .i64) i.1⟩) :: (1005, ⟨37, 3, wbt 0 Node.npv i.2⟩) :: t)) h ?_ ?_
    ·intro _ hj_12
     refine sg fun K k => ?_
     obtain ⟨e2, ⟨f_13, f_14, f_15, f_16⟩, hj_12⟩ := wak hj_12
     iterate 7 refine oo ?_
     refine oo ?_ (by intro K k; simp (disch := omega) only [go_sem, f_15, ↓reduceIte]; exact k)
     iterate 2 refine oo ?_
     refine AOps.nil (k _ ?_)
     refine AWp.block ?_
     obtain ⟨x_21, hl_18, h2_19⟩ := bind_some hj_12
     refine lp (S := (Int × (List (Int × Int)) × (List Node))) [2, 4, 9, 57, 58] [2, 3, 6, 7, 8, 1009] (fun i t => (59, .d (.int .i64 i.1)) :: t) (fun i t => waz 0 (waL Node.sub i.2.2) ((0, ⟨133, 1, [.mp 4]⟩) :: (1, ⟨32, 1, [.slc 1005 0 i.2.2.length]⟩) :: (4, ⟨133, 0, wam (PD.int .i64) (PD.int .i64) i.2.1⟩) :: (1005, ⟨37, 3, wbt 0 Node.npv i.2.2⟩) :: t)) hl_18 ?_ ?_; exact sb; clear hl_18
     rintro ⟨v1, M2, L2⟩ _ hb_20; unfold waI at hb_20; try dsimp only at hb_20
     try dsimp only
     refine sg fun K k => ?_
     refine oo ?_
     refine AOps.nil (k _ ?_)
     refine AWp.seq fun _ K_23 => ?_
     refine cd hb_20 (fun hb_20 => ?_) (fun hb_20 => ?_)
     ·refine AWp.skip ?_
      refine K_23 _ ?_
      refine AWp.seq fun _ K_25 => ?_
      refine AWp.block ?_
      refine sg fun K k => ?_
      obtain ⟨e3, ⟨f_26, f_27, f_28, f_29⟩, hb_20⟩ := wak hb_20
      refine oo ?_
      refine oo ?_ (by intro K k; simp (disch := omega) only [go_sem, f_28, ↓reduceIte]; exact k)
      refine oo ?_
      refine AOps.nil (k _ ?_)
      refine sg fun K k => ?_
      iterate 2 refine oo ?_
      obtain ⟨r2, hx_30, hb_20⟩ := bind_some hb_20
      refine clD [(0, 0), (1, 1), (2, 2), (3, 3), (4, 4), (1005, 1005), (6, 6), (7, 7), (8, 8), (1009, 1009)] [1005, 1009] (ih M2 L2 o1 e3 _ hx_30) ?_
      refine oo ?_
      refine AOps.nil (k _ ?_)
      obtain ⟨e4, ⟨f_31, f_32, f_33, f_34⟩, hb_20⟩ := wak hb_20
      try simp only [Int.toNat_natCast] at f_33 f_34
      have hF_35 := fun p => wrJ (c := 0) (i := ((l1.length : Int)).toNat) (F := Node.npv) f_33 p
      have hf_36 := wre (c := 0) (i := ((l1.length : Int)).toNat) (q := 1010) (F := Node.npv) f_33
      refine AWp.sub (fcs 0 (((l1.length : Int)).toNat) 1010 (⟨3, 1, dl (wab (PD.int .i64) e4.To)⟩ : Row) (F := Node.npv) (g := Node.sub) f_33 (hl := by (simp only [wcR, Row.ren, renL, PV.ren, dl_ren, mels_ren, optP_ren, wfm, Nat.reduceLT, hf_36]; rfl))) ?_
      refine drX mo [(1010, [72, 75, 1001005])] ?_
      iterate 6 (refine dd ?_ (by intro K k; simp (disch := omega) only [go_sem, true_or, or_true, and_self, true_and, and_true, ↓reduceIte]; exact k))
      refine dd ?_ (by intro K k; simp (disch := omega) only [go_sem, hF_35, List.set_set, true_or, or_true, and_self, true_and, and_true, ↓reduceIte]; exact k)
      refine dd ?_ (by intro K k; simp (disch := omega) only [go_sem, true_or, or_true, and_self, true_and, and_true, ↓reduceIte]; exact k)
      refine ddl ?_ (by intro K k; simp (disch := omega) only [go_sem, true_or, or_true, and_self, true_and, and_true, ↓reduceIte]; exact k)
      obtain ⟨hg_37, hb_20⟩ := wai hb_20
      refine wso [72, 75, 1001005] [(1005, ⟨37, 3, (wbt 0 Node.npv r2.2.2).set (((l1.length : Int)).toNat) (.agg [.d (.int .i64 e4.Mark), .d (.imm 1 (wab (PD.int .i64) e4.Cuts)), .slc 1010 0 e4.To.length])⟩)] (dl (wab (PD.int .i64) [r2.1])) se26 ?_
      iterate 2 (refine dd ?_ (by intro K k; simp (disch := omega) only [go_sem, true_or, or_true, and_self, true_and, and_true, ↓reduceIte]; exact k))
      refine dd ?_ (by intro K k; simp (disch := omega) only [go_sem, hF_35, List.set_set, true_or, or_true, and_self, true_and, and_true, ↓reduceIte]; exact k)
      refine DOps.nil (by kernel_rfl) ?_
      refine K_25 _ ?_
      refine AWp.sub (drp [(2, .ptr 1 0 0), (4, .ptr 3 0 0), (9, .d (.int .i64 (l1.length : Int))), (11, .d (.int .i64 e3)), (12, .d (.int .i64 r2.1)), (57, .d (.imm 1 (wab (PD.int .i64) e2.To))), (58, .d (.int .i64 (e2.To.length : Int))), (59, .d (.int .i64 v1)), (60, .d (.bool (decide (v1 < (e2.To.length : Int))))), (61, .dptr 1 (wab (PD.int .i64) e2.To) ((v1).toNat) 0), (62, .d (.int .i64 e3)), (63, .func (.func 91) [.ptr 0 0 0, .ptr 1 0 0, .ptr 2 0 0, .ptr 3 0 0]), (64, .d (.int .i64 e3)), (65, .d (.int .i64 r2.1)), (66, .slc 1005 0 ((r2.2.2.set (((l1.length : Int)).toNat) (⟨e4.Mark, e4.Cuts, (e4.To ++ [r2.1])⟩ : Node)).length)), (67, .d (.int .i64 (l1.length : Int))), (68, .slc 1005 0 ((r2.2.2.set (((l1.length : Int)).toNat) (⟨e4.Mark, e4.Cuts, (e4.To ++ [r2.1])⟩ : Node)).length)), (69, .d (.int .i64 (l1.length : Int))), (70, .ptr 1005 (((l1.length : Int)).toNat) 0), (71, .ptr 1005 (((l1.length : Int)).toNat) 2), (73, .d (.int .i64 r2.1)), (74, .d (.imm 1 (wab (PD.int .i64) [r2.1]))), (76, .ptr 1005 (((l1.length : Int)).toNat) 0), (77, .ptr 1005 (((l1.length : Int)).toNat) 2)]) ?_
      refine AWp.sub (ufc (F := Node.npv) (g := Node.sub) 0 (((l1.length : Int)).toNat) 1010 (⟨e4.Mark, e4.Cuts, (e4.To ++ [r2.1])⟩ : Node) [(0, ⟨133, 1, [.mp 4]⟩), (1, ⟨32, 1, [.slc 1005 0 ((r2.2.2.set (((l1.length : Int)).toNat) (⟨e4.Mark, e4.Cuts, (e4.To ++ [r2.1])⟩ : Node)).length)]⟩), (2, ⟨88, 1, [.ptr 6 0 0]⟩), (3, ⟨124, 1, [.func (.func 91) [.ptr 0 0 0, .ptr 1 0 0, .ptr 2 0 0, .ptr 3 0 0]]⟩), (4, ⟨133, 0, wam (PD.int .i64) (PD.int .i64) r2.2.1⟩), (6, ⟨92, 5, [.agg [.d (.int .i64 o1.k), .d (.imm 2 (wab Rule.pd o1.rules)), .mp 7, .mp 8, .slc 1009 0 o1.nodes.length]]⟩), (7, ⟨89, 0, wam Arr3_Int.pd (PD.int .i64) o1.known⟩), (8, ⟨90, 0, wam PD.str (PD.int .i64) o1.same⟩), (1005, ⟨37, 3, wbt 0 Node.npv (r2.2.2.set (((l1.length : Int)).toNat) (⟨e4.Mark, e4.Cuts, (e4.To ++ [r2.1])⟩ : Node))⟩), (1009, ⟨37, 3, dl (wab Node.pd o1.nodes)⟩)] f_34 (hl := by (repeat' (first | exact trivial | exact rfl | exact dl_ren _ _ | exact mels_ren _ _ _ _ | exact wln (by decide) f_34 | exact woW (by decide) f_34 (by (simp only [go_sem, List.length_append, List.length_set, List.length_replicate, List.length_cons, List.length_nil, Nat.zero_add]; done)) | (simp only [renL, PV.ren, List.length_append, List.length_set, List.length_replicate, List.length_cons, List.length_nil, Nat.zero_add]; exact rfl) | apply And.intro)))) ?_
      refine AWp.reg ?_
      iterate 2 refine oo ?_
      refine AOps.nil ?_
      exact ln hb_20 sb
     ·refine AWp.exit ?_
      refine lx hb_20 fun hx => ?_; cases hx; try dsimp only at h2_19
      cases h2_19; exact sb
    ·rintro ⟨M1, L1⟩ h; dsimp only at h ⊢
     refine sg fun K k => ?_
     iterate 2 refine oo ?_
     refine AOps.nil (k _ ?_)
     refine AWp.ret ?_
     cases h; exact rtO
end Go.Pv.Tryd

namespace Go.Pv.Tryd
open Go.Proofs Go.Pv
theorem wgY (o1 : Builder) (top1 : Int) (r : ((List Node) × Builder)) (h : waX o1 top1 = some r) : ObjFn Tryd.prog G 59 [.ptr 0 0 0, .d (.int .i64 top1)] [(0, ⟨92, 5, [.agg [.d (.int .i64 o1.k), .d (.imm 2 (wab Rule.pd o1.rules)), .mp 1, .mp 2, .slc 1003 0 o1.nodes.length]]⟩), (1, ⟨89, 0, wam Arr3_Int.pd (PD.int .i64) o1.known⟩), (2, ⟨90, 0, wam PD.str (PD.int .i64) o1.same⟩), (1003, ⟨37, 3, dl (wab Node.pd o1.nodes)⟩)] (.d (.imm 3 (wab Node.pd r.1))) [(0, ⟨92, 5, [.agg [.d (.int .i64 r.2.k), .d (.imm 2 (wab Rule.pd r.2.rules)), .mp 1, .mp 2, .slc 1003 0 r.2.nodes.length]]⟩), (1, ⟨89, 0, wam Arr3_Int.pd (PD.int .i64) r.2.known⟩), (2, ⟨90, 0, wam PD.str (PD.int .i64) r.2.same⟩), (1003, ⟨37, 3, dl (wab Node.pd r.2.nodes)⟩)] := by
 unfold waX at h
 refine ObjFn.pf Tryd.func59 Tryd.ntmps59 ?_
 refine sg fun K k => ?_
 iterate 2 refine oo ?_
 refine AOps.nil (k _ ?_)
 refine sg fun K k => ?_
 refine oo ?_
 refine AOps.sub (Sub.voidVar 1005 37 3 1006 rfl (by decide) rfl rfl (by decide) (by decide)) ?_
 simp only [waj, reduceCtorEq, ↓reduceIte, Nat.reduceAdd, Nat.reduceMul, Nat.reduceLT, Nat.reduceLeDiff, Nat.reduceEqDiff, Nat.reduceBEq, Int.reduceToNat]
 refine AOps.sub (wtF 0 Node.sub) ?_
 refine AOps.nil (k _ ?_)
 refine sg fun K k => ?_
 refine omk (α := Int) (β := Int) (PD.int .i64) (PD.int .i64) 1007 ?_
 iterate 2 refine oo ?_
 refine AOps.nil (k _ ?_)
 refine sg fun K k => ?_
 refine oo ?_
 refine AOps.nil (k _ ?_)
 refine sg fun K k => ?_
 iterate 2 refine oo ?_
 refine AOps.nil (k _ ?_)
 refine sg fun K k => ?_
 iterate 2 refine oo ?_
 obtain ⟨r1, hx_1, h⟩ := bind_some h
 refine clD [(0, 1008), (1, 1005), (2, 1004), (3, 1009), (4, 1007), (1005, 1006), (6, 0), (7, 1), (8, 2), (1009, 1003)] [1006, 1003] (wgx 100 [] [] o1 top1 _ hx_1) ?_
 refine AOps.nil (k _ ?_)
 refine sg fun K k => ?_
 iterate 2 refine oo ?_
 refine AOps.nil (k _ ?_)
 refine AWp.sub (unn 0 1006 Node.pd) ?_
 refine AWp.sub (τ := ⟨[(4, .d (.imm 3 (wab Node.pd r1.2.2)))], [(0, ⟨92, 5, [.agg [.d (.int .i64 o1.k), .d (.imm 2 (wab Rule.pd o1.rules)), .mp 1, .mp 2, .slc 1003 0 o1.nodes.length]]⟩), (1, ⟨89, 0, wam Arr3_Int.pd (PD.int .i64) o1.known⟩), (2, ⟨90, 0, wam PD.str (PD.int .i64) o1.same⟩), (1003, ⟨37, 3, dl (wab Node.pd o1.nodes)⟩)], [], none⟩) sc ?_
 refine AWp.ret ?_
 cases h; exact rtO
end Go.Pv.Tryd

namespace Go.Pv.Tryd
open Go.Proofs Go.Pv
theorem wfs (k1 : Int) (t1 : (List Rule)) (r : ((List Node) × Int)) (h : wbj k1 t1 = some r) : PureFn Tryd.prog G 26 [.d (.int .i64 k1), .d (.imm 2 (wab Rule.pd t1))] (.tuple [.d (.imm 3 (wab Node.pd r.1)), .d (.int .i64 r.2)]) := by
 unfold wbj at h
 refine pf Tryd.func26 Tryd.ntmps26 ?_
 refine sg fun K k => ?_
 iterate 2 refine oo ?_
 refine AOps.nil (k _ ?_)
 refine AWp.seq fun _ K_1 => ?_
 refine sg fun K k => ?_
 iterate 2 refine oo ?_
 refine ol ?_
 obtain ⟨r1, hx_2, h⟩ := bind_some h
 refine cl (wdn k1 [t1] _ hx_2) ?_
 refine oo ?_
 refine AOps.nil (k _ ?_)
 refine sg fun K k => ?_
 iterate 2 refine oo ?_
 refine AOps.nil (k _ ?_)
 refine cd h (fun h => ?_) (fun h => ?_)
 ·refine sg fun K k => ?_
  iterate 3 refine oo ?_
  refine AOps.nil (k _ ?_)
  refine AWp.ret ?_
  cases h; exact rt
 ·refine AWp.skip ?_
  refine K_1 _ ?_
  refine sg fun K k => ?_
  iterate 2 refine oo ?_
  refine omk (α := Arr3_Int) (β := Int) Arr3_Int.pd (PD.int .i64) 1000 ?_
  refine omk (α := ByteArray) (β := Int) PD.str (PD.int .i64) 1001 ?_
  iterate 3 refine oo ?_
  refine AOps.sub (Sub.voidCell 1002 4 37 3 1003 (x := ⟨92, 5, [.agg [.d (.int .i64 k1), .d (.imm 2 (wab Rule.pd t1)), .mp 1000, .mp 1001, .d .nilslice]]⟩) (p := .agg [.d (.int .i64 k1), .d (.imm 2 (wab Rule.pd t1)), .mp 1000, .mp 1001, .d .nilslice]) (cs := [.d (.int .i64 k1), .d (.imm 2 (wab Rule.pd t1)), .mp 1000, .mp 1001, .d .nilslice]) rfl (Nat.le_of_ble_eq_true rfl) rfl rfl rfl rfl rfl (by decide) (by decide)) ?_
  simp only [waj, List.set_cons_succ, List.set_cons_zero, reduceCtorEq, ↓reduceIte, Nat.reduceAdd, Nat.reduceMul, Nat.reduceLT, Nat.reduceLeDiff, Nat.reduceEqDiff, Nat.reduceBEq, Int.reduceToNat]
  refine AOps.nil (k _ ?_)
  refine sg fun K k => ?_
  iterate 2 refine oo ?_
  obtain ⟨r2, hx_4, h⟩ := bind_some h
  refine cl (wdT t1 _ hx_4) ?_
  obtain ⟨r3, hx_5, h⟩ := bind_some h
  refine clU [(0, 1002), (1, 1000), (2, 1001), (1003, 1003)] [1003] (wiE 100 (⟨k1, t1, [], [], []⟩ : Builder) 0 r2 _ hx_5) ?_
  refine oo ?_
  refine AOps.nil (k _ ?_)
  refine AWp.seq fun _ K_6 => ?_
  refine sg fun K k => ?_
  iterate 2 refine oo ?_
  refine AOps.nil (k _ ?_)
  refine cd h (fun h => ?_) (fun h => ?_)
  ·refine sg fun K k => ?_
   refine ol ?_
   refine oo ?_
   refine ol ?_
   refine oo ?_
   refine ol ?_
   iterate 2 refine oo ?_
   refine AOps.nil (k _ ?_)
   refine AWp.ret ?_
   cases h; exact rt
  ·refine AWp.skip ?_
   refine K_6 _ ?_
   refine sg fun K k => ?_
   iterate 2 refine oo ?_
   obtain ⟨r4, hx_8, h⟩ := bind_some h
   refine clU [(0, 1002), (1, 1000), (2, 1001), (1003, 1003)] [1003] (wgY r3.2 r3.1 _ hx_8) ?_
   iterate 2 refine oo ?_
   refine AOps.nil (k _ ?_)
   refine AWp.ret ?_
   cases h; exact rt
end Go.Pv.Tryd

namespace Go.Pv.Tryd
open Go.Proofs Go.Pv
theorem wcV (a1 : (List Int)) (b1 : (List Int)) (r : Bool) (h : wbb a1 b1 = some r) : PureFn Tryd.prog G 23 [.d (.imm 1 (wab (PD.int .i64) a1)), .d (.imm 1 (wab (PD.int .i64) b1))] (.d (.bool r)) := by
 unfold wbb at h
 refine pf Tryd.func23 Tryd.ntmps23 ?_
 refine sg fun K k => ?_
 refine oo ?_
 refine AOps.nil (k _ ?_)
 refine AWp.seq fun _ K_1 => ?_
 refine sg fun K k => ?_
 iterate 5 refine oo ?_
 refine AOps.nil (k _ ?_)
 refine cd h (fun h => ?_) (fun h => ?_)
 ·refine sg fun K k => ?_
  refine oo ?_
  refine AOps.nil (k _ ?_)
  refine AWp.ret ?_
  cases h; exact rt
 ·refine AWp.skip ?_
  refine K_1 _ ?_
  refine jm (ι := Unit) [] [] (fun i t => t) (fun i t => t) .inl h ?_ ?_
  ·intro _ hj_4 h
   refine sg fun K k => ?_
   refine oo ?_
   refine AOps.nil (k _ ?_)
   refine AWp.block ?_
   obtain ⟨x_9, hl_6, h2_7⟩ := bind_some hj_4
   refine lp (S := Int) [0, 1] [] (fun i t => (5, .d (.int .i64 i)) :: t) (fun i t => t) hl_6 ?_ ?_; exact sb; clear hl_6
   rintro i1 _ hb_8; unfold waP at hb_8; try dsimp only at hb_8
   try dsimp only
   refine AWp.seq fun _ K_11 => ?_
   refine sg fun K k => ?_
   iterate 4 refine oo ?_
   refine AOps.nil (k _ ?_)
   refine cd hb_8 (fun hb_8 => ?_) (fun hb_8 => ?_)
   ·refine AWp.skip ?_
    refine K_11 _ ?_
    refine AWp.seq fun _ K_13 => ?_
    refine AWp.block ?_
    refine sd mo fun K k => ?_
    obtain ⟨e1, ⟨f_14, f_15, f_16, f_17⟩, hb_8⟩ := wak hb_8
    iterate 3 refine dd ?_
    refine dd ?_ (by intro K k; simp (disch := omega) only [go_sem, f_16, ↓reduceIte]; exact k)
    obtain ⟨e2, ⟨f_18, f_19, f_20, f_21⟩, hb_8⟩ := wak hb_8
    iterate 3 refine dd ?_
    refine dd ?_ (by intro K k; simp (disch := omega) only [go_sem, f_20, ↓reduceIte]; exact k)
    refine dd ?_
    refine DOps.nil (by kernel_rfl) (k _ ?_)
    refine cd hb_8 (fun hb_8 => ?_) (fun hb_8 => ?_)
    ·refine sg fun K k => ?_
     refine oo ?_
     refine AOps.nil (k _ ?_)
     refine AWp.ret ?_
     refine lx hb_8 fun hx => ?_; cases hx; try dsimp only at h2_7
     cases h2_7; try dsimp only at h
     cases h; exact rt
    ·refine AWp.skip ?_
     refine K_13 _ ?_
     refine AWp.reg ?_
     iterate 3 refine oo ?_
     refine AOps.nil ?_
     exact ln hb_8 sb
   ·refine AWp.exit ?_
    refine lx hb_8 fun hx => ?_; cases hx; try dsimp only at h2_7
    exact ln h2_7 sb
  ·rintro _ h; dsimp only at h ⊢
   refine sg fun K k => ?_
   refine oo ?_
   refine AOps.nil (k _ ?_)
   refine AWp.ret ?_
   cases h; exact rt
end Go.Pv.Tryd

namespace Go.Pv.Tryd
open Go.Proofs Go.Pv
set_option maxHeartbeats 4000000 in
theorem weF (r : Bool) (h : wbL = some r) : PureFn Tryd.prog G 19 [] (.d (.bool r)) := by
 unfold wbL at h
 refine pf Tryd.func19 Tryd.ntmps19 ?_
 refine sg fun K k => ?_
 refine oo ?_
 refine AOps.nil (k _ ?_)
 refine sg fun K k => ?_
 obtain ⟨r1, hx_1, h⟩ := bind_some h
 refine cl (weE _ hx_1) ?_
 obtain ⟨r2, hx_2, h⟩ := bind_some h
 refine cl (wmL 1 r1 _ hx_2) ?_
 iterate 5 refine oo ?_
 refine AOps.nil (k _ ?_)
 refine sg fun K k => ?_
 obtain ⟨r3, hx_3, h⟩ := bind_some h
 refine cl (weE _ hx_3) ?_
 obtain ⟨r4, hx_4, h⟩ := bind_some h
 refine cl (wnC 1 r3 _ hx_4) ?_
 iterate 5 refine oo ?_
 refine AOps.nil (k _ ?_)
 refine sg fun K k => ?_
 obtain ⟨r5, hx_5, h⟩ := bind_some h
 refine cl (weE _ hx_5) ?_
 obtain ⟨r6, hx_6, h⟩ := bind_some h
 refine cl (wfs 1 r5 _ hx_6) ?_
 iterate 5 refine oo ?_
 refine AOps.nil (k _ ?_)
 refine sg fun K k => ?_
 iterate 3 refine oo ?_
 obtain ⟨b1, hc_7, h⟩ := bind_some h
 refine ct 4 [3, 4, 5, 6] [] (fun  t => (28, .d (.bool b1)) :: t) ?_ ?_
 ·rcases bt (decide (r2.2 = 0)) with hg_9 | hg_9
  ·rw [hg_9]
   rw [hg_9, cond_true] at hc_7
   refine oo ?_
   refine ol ?_
   obtain ⟨r7, hx_8, hc_7⟩ := bind_some hc_7
   refine cl (wcV r2.1 [2] _ hx_8) ?_
   refine oo ?_
   refine AOps.nil ?_
   cases hc_7
   exact sb
  ·rw [hg_9]
   rw [hg_9, cond_false] at hc_7
   iterate 4 refine oo ?_
   refine AOps.nil ?_
   cases hc_7
   exact sb
 refine oo ?_
 refine ct 3 [3, 5, 6] [] (fun  t => (32, .d (.bool (b1 && (decide (r4.2 = 0))))) :: t) ?_ ?_
 ·rcases bt b1 with hg_11 | hg_11
  ·rw [hg_11]
   iterate 3 refine oo ?_
   refine AOps.nil ?_
   exact sb
  ·rw [hg_11]
   iterate 3 refine oo ?_
   refine AOps.nil ?_
   exact sb
 refine oo ?_
 obtain ⟨b2, hc_12, h⟩ := bind_some h
 refine ct 4 [5, 6] [] (fun  t => (37, .d (.bool b2)) :: t) ?_ ?_
 ·rcases bt (b1 && (decide (r4.2 = 0))) with hg_14 | hg_14
  ·rw [hg_14]
   rw [hg_14, cond_true] at hc_12
   refine oo ?_
   refine ol ?_
   obtain ⟨r8, hx_13, hc_12⟩ := bind_some hc_12
   refine cl (wcV r4.1 [20] _ hx_13) ?_
   refine oo ?_
   refine AOps.nil ?_
   cases hc_12
   exact sb
  ·rw [hg_14]
   rw [hg_14, cond_false] at hc_12
   iterate 4 refine oo ?_
   refine AOps.nil ?_
   cases hc_12
   exact sb
 refine oo ?_
 refine ct 3 [5] [] (fun  t => (41, .d (.bool (b2 && (decide (r6.2 = 0))))) :: t) ?_ ?_
 ·rcases bt b2 with hg_16 | hg_16
  ·rw [hg_16]
   iterate 3 refine oo ?_
   refine AOps.nil ?_
   exact sb
  ·rw [hg_16]
   iterate 3 refine oo ?_
   refine AOps.nil ?_
   exact sb
 refine oo ?_
 refine ct 4 [5] [] (fun  t => (46, .d (.bool ((b2 && (decide (r6.2 = 0))) && (decide ((r6.1.length : Int) = 1))))) :: t) ?_ ?_
 ·rcases bt (b2 && (decide (r6.2 = 0))) with hg_18 | hg_18
  ·rw [hg_18]
   iterate 4 refine oo ?_
   refine AOps.nil ?_
   exact sb
  ·rw [hg_18]
   iterate 4 refine oo ?_
   refine AOps.nil ?_
   exact sb
 refine oo ?_
 obtain ⟨b3, hc_19, h⟩ := bind_some h
 refine ct 7 [] [] (fun  t => (54, .d (.bool b3)) :: t) ?_ ?_
 ·rcases bt ((b2 && (decide (r6.2 = 0))) && (decide ((r6.1.length : Int) = 1))) with hg_25 | hg_25
  ·rw [hg_25]
   rw [hg_25, cond_true] at hc_19
   obtain ⟨e1, ⟨f_20, f_21, f_22, f_23⟩, hc_19⟩ := wak hc_19
   try simp only [Int.reduceToNat] at f_22 f_23
   iterate 3 refine oo ?_
   refine oo ?_ (by intro K k; simp (disch := omega) only [go_sem, f_22, ↓reduceIte]; exact k)
   refine ol ?_
   obtain ⟨r9, hx_24, hc_19⟩ := bind_some hc_19
   refine cl (wcV e1.To [(-3), (-4), (-1)] _ hx_24) ?_
   refine oo ?_
   refine AOps.nil ?_
   cases hc_19
   exact sb
  ·rw [hg_25]
   rw [hg_25, cond_false] at hc_19
   iterate 7 refine oo ?_
   refine AOps.nil ?_
   cases hc_19
   exact sb
 refine oo ?_
 refine AOps.nil (k _ ?_)
 refine AWp.ret ?_
 cases h; exact rt
end Go.Pv.Tryd

namespace Go.Pv.Tryd
open Go.Proofs Go.Pv
theorem wgU (t1 : (List Rule)) (i1 : Int) (r : Int) (h : wdd t1 i1 = some r) : PureFn Tryd.prog G 94 [.d (.imm 2 (wab Rule.pd t1)), .d (.int .i64 i1)] (.d (.int .i64 r)) := by
 unfold wdd at h
 refine pf Tryd.func94 Tryd.ntmps94 ?_
 refine sg fun K k => ?_
 refine oo ?_
 refine AOps.nil (k _ ?_)
 refine AWp.seq fun _ K_1 => ?_
 refine sg fun K k => ?_
 iterate 2 refine oo ?_
 refine AOps.nil (k _ ?_)
 refine cd h (fun h => ?_) (fun h => ?_)
 ·refine sg fun K k => ?_
  refine oo ?_
  refine AOps.nil (k _ ?_)
  refine AWp.ret ?_
  cases h; exact rt
 ·refine AWp.skip ?_
  refine K_1 _ ?_
  refine sg fun K k => ?_
  obtain ⟨e1, ⟨f_3, f_4, f_5, f_6⟩, h⟩ := wak h
  iterate 4 refine oo ?_
  refine oo ?_ (by intro K k; simp (disch := omega) only [go_sem, f_5, ↓reduceIte]; exact k)
  refine oo ?_
  refine AOps.nil (k _ ?_)
  refine AWp.ret ?_
  cases h; exact rt
end Go.Pv.Tryd

namespace Go.Pv.Tryd
open Go.Proofs Go.Pv
theorem wiF (i1 : Int) (j1 : Int) (k1 : (List Rule)) (k2 : (List Rule)) (r : Bool) (h : wdP i1 j1 k1 k2 = some r) : PureFn Tryd.prog G 95 [.d (.int .i64 i1), .d (.int .i64 j1), .dptr 1 [(.fn (.func 94))] 0 0, .dptr 1 [(.imm 2 (wab Rule.pd k1))] 0 0, .dptr 1 [(.imm 2 (wab Rule.pd k2))] 0 0] (.d (.bool r)) := by
 unfold wdP at h
 refine pf Tryd.func95 Tryd.ntmps95 ?_
 refine sg fun K k => ?_
 refine oo ?_
 refine AOps.nil (k _ ?_)
 refine sd mo fun K k => ?_
 iterate 3 refine dd ?_
 obtain ⟨r1, hx_1, h⟩ := bind_some h
 refine wtp (wgU k1 i1 _ hx_1) ?_
 iterate 3 refine dd ?_
 refine DOps.stop (by kernel_rfl) ?_
 obtain ⟨r2, hx_2, h⟩ := bind_some h
 refine clV (wgU k2 j1 _ hx_2) ?_
 iterate 2 refine oo ?_
 refine AOps.nil (k _ ?_)
 refine AWp.ret ?_
 cases h; exact rt
end Go.Pv.Tryd

namespace Go.Pv.Tryd
open Go.Proofs Go.Pv
set_option maxHeartbeats 4000000 in
theorem wfT (n : Nat) : ∀ (o1 : Walker) (o2 : (List Rule)) (o3 : (List Rule)) (m1 : (List (Arr3_Int × Bool))) (mark1 : Int) (a1 : Int) (b1 : Int) (r : ((List Int) × Bool × (List (Arr3_Int × Bool)))) (h : waq n o1 o2 o3 m1 mark1 a1 b1 = some r), ObjFn Tryd.prog G 79 [.d (.int .i64 mark1), .d (.int .u32 a1), .d (.int .u32 b1), .ptr 0 0 0, .ptr 1 0 0, .ptr 2 0 0, .ptr 3 0 0] [(0, ⟨72, 3, [.d (.agg [(.int .i64 o1.k), (.imm 2 (wab Rule.pd o1.s)), (.imm 2 (wab Rule.pd o1.t))])]⟩), (1, ⟨74, 1, [.func (.func 95) [.dptr 1 [(.fn (.func 94))] 0 0, .dptr 1 [(.imm 2 (wab Rule.pd o2))] 0 0, .dptr 1 [(.imm 2 (wab Rule.pd o3))] 0 0]]⟩), (2, ⟨117, 1, [.mp 4]⟩), (3, ⟨118, 1, [.func (.func 79) [.ptr 0 0 0, .ptr 1 0 0, .ptr 2 0 0, .ptr 3 0 0]]⟩), (4, ⟨117, 0, wam Arr3_Int.pd PD.bool m1⟩)] (.tuple [.d (.imm 1 (wab (PD.int .i64) r.1)), .d (.bool r.2.1)]) [(0, ⟨72, 3, [.d (.agg [(.int .i64 o1.k), (.imm 2 (wab Rule.pd o1.s)), (.imm 2 (wab Rule.pd o1.t))])]⟩), (1, ⟨74, 1, [.func (.func 95) [.dptr 1 [(.fn (.func 94))] 0 0, .dptr 1 [(.imm 2 (wab Rule.pd o2))] 0 0, .dptr 1 [(.imm 2 (wab Rule.pd o3))] 0 0]]⟩), (2, ⟨117, 1, [.mp 4]⟩), (3, ⟨118, 1, [.func (.func 79) [.ptr 0 0 0, .ptr 1 0 0, .ptr 2 0 0, .ptr 3 0 0]]⟩), (4, ⟨117, 0, wam Arr3_Int.pd PD.bool r.2.2⟩)] := by
 induction n with
 | zero => intro o1 o2 o3 m1 mark1 a1 b1 r h; cases h
 | succ n ih =>
  intro o1 o2 o3 m1 mark1 a1 b1 r h
  replace h : wbl (waq n) o1 o2 o3 m1 mark1 a1 b1 = some r := h
  unfold wbl at h
  refine ObjFn.pf Tryd.func79 Tryd.ntmps79 ?_
  refine sg fun K k => ?_
  iterate 2 refine oo ?_
  refine AOps.nil (k _ ?_)
  refine AWp.seq fun _ K_1 => ?_
  refine sg fun K k => ?_
  iterate 4 refine oo ?_
  refine AOps.nil (k _ ?_)
  refine cd h (fun h => ?_) (fun h => ?_)
  ·refine sd mo fun K k => ?_
   iterate 2 refine dd ?_
   obtain ⟨r1, hx_3, h⟩ := bind_some h
   refine dcl (wcg a1 _ hx_3) ?_
   refine dd ?_
   obtain ⟨r2, hx_4, h⟩ := bind_some h
   refine dcl (wcg b1 _ hx_4) ?_
   refine DOps.stop (by kernel_rfl) ?_
   obtain ⟨r3, hx_5, h⟩ := bind_some h
   refine clC (wiF r1 r2 o2 o3 _ hx_5) ?_
   iterate 2 refine oo ?_
   refine AOps.nil (k _ ?_)
   refine AWp.sub (τ := ⟨[(10, .d (.imm 1 (wab (PD.int .i64) []))), (11, .d (.bool r3))], [(0, ⟨72, 3, [.d (.agg [(.int .i64 o1.k), (.imm 2 (wab Rule.pd o1.s)), (.imm 2 (wab Rule.pd o1.t))])]⟩), (1, ⟨74, 1, [.func (.func 95) [.dptr 1 [(.fn (.func 94))] 0 0, .dptr 1 [(.imm 2 (wab Rule.pd o2))] 0 0, .dptr 1 [(.imm 2 (wab Rule.pd o3))] 0 0]]⟩), (2, ⟨117, 1, [.mp 4]⟩), (3, ⟨118, 1, [.func (.func 79) [.ptr 0 0 0, .ptr 1 0 0, .ptr 2 0 0, .ptr 3 0 0]]⟩), (4, ⟨117, 0, wam Arr3_Int.pd PD.bool m1⟩)], [], none⟩) sc ?_
   refine AWp.ret ?_
   cases h; exact rtO
  ·refine AWp.skip ?_
   refine K_1 _ ?_
   refine sg fun K k => ?_
   iterate 8 refine oo ?_
   refine AOps.nil (k _ ?_)
   refine AWp.seq fun _ K_6 => ?_
   refine sg fun K k => ?_
   iterate 2 refine oo ?_
   refine oml (k := (⟨mark1, (IntKind.i64.wrap a1), (IntKind.i64.wrap b1)⟩ : Arr3_Int)) (L := m1) (v0 := false) (encV := PD.bool) wiW wo6 ty4 MZ4 (fun _ _ => .bool _) ?_
   refine AOps.nil (k _ ?_)
   refine cd h (fun h => ?_) (fun h => ?_)
   ·refine sg fun K k => ?_
    iterate 2 refine oo ?_
    refine AOps.nil (k _ ?_)
    refine AWp.sub (τ := ⟨[(10, .d (.imm 1 (wab (PD.int .i64) []))), (11, .d (.bool false))], [(0, ⟨72, 3, [.d (.agg [(.int .i64 o1.k), (.imm 2 (wab Rule.pd o1.s)), (.imm 2 (wab Rule.pd o1.t))])]⟩), (1, ⟨74, 1, [.func (.func 95) [.dptr 1 [(.fn (.func 94))] 0 0, .dptr 1 [(.imm 2 (wab Rule.pd o2))] 0 0, .dptr 1 [(.imm 2 (wab Rule.pd o3))] 0 0]]⟩), (2, ⟨117, 1, [.mp 4]⟩), (3, ⟨118, 1, [.func (.func 79) [.ptr 0 0 0, .ptr 1 0 0, .ptr 2 0 0, .ptr 3 0 0]]⟩), (4, ⟨117, 0, wam Arr3_Int.pd PD.bool m1⟩)], [], none⟩) sc ?_
    refine AWp.ret ?_
    cases h; exact rtO
   ·refine AWp.skip ?_
    refine K_6 _ ?_
    refine sg fun K k => ?_
    refine oo ?_
    refine AOps.nil (k _ ?_)
    refine jm (ι := (List (Arr3_Int × Bool))) [5, 12] [0, 1, 3, 1000] (fun i t => t) (fun i t => (2, ⟨117, 1, [.mp 4]⟩) :: (4, ⟨117, 0, wam Arr3_Int.pd PD.bool i⟩) :: t) .inl h ?_ ?_
    ·intro _ hj_9 h
     refine sg fun K k => ?_
     iterate 5 refine oo ?_
     refine ol ?_
     obtain ⟨r4, hx_10, hj_9⟩ := bind_some hj_9
     refine cl (wfc mark1 [o1.s, o1.t] _ hx_10) ?_
     iterate 2 refine oo ?_
     refine AOps.nil (k _ ?_)
     refine AWp.block ?_
     obtain ⟨x_15, hl_12, h2_13⟩ := bind_some hj_9
     refine lp (S := (Int × Int × (List (Arr3_Int × Bool)))) [0, 1, 2, 3, 5, 6, 12, 43, 44] [0, 1, 3, 1000] (fun i t => (13, .d (.int .i64 i.1)) :: (45, .d (.int .i64 i.2.1)) :: t) (fun i t => (2, ⟨117, 1, [.mp 4]⟩) :: (4, ⟨117, 0, wam Arr3_Int.pd PD.bool i.2.2⟩) :: t) hl_12 ?_ ?_; exact sb; clear hl_12
     rintro ⟨from1, v1, M2⟩ _ hb_14; unfold wbe at hb_14; try dsimp only at hb_14
     try dsimp only
     refine sg fun K k => ?_
     refine oo ?_
     refine AOps.nil (k _ ?_)
     refine AWp.seq fun _ K_17 => ?_
     refine cd hb_14 (fun hb_14 => ?_) (fun hb_14 => ?_)
     ·refine AWp.skip ?_
      refine K_17 _ ?_
      refine AWp.seq fun _ K_19 => ?_
      refine AWp.block ?_
      refine sg fun K k => ?_
      obtain ⟨e1, ⟨f_20, f_21, f_22, f_23⟩, hb_14⟩ := wak hb_14
      refine oo ?_
      refine oo ?_ (by intro K k; simp (disch := omega) only [go_sem, f_22, ↓reduceIte]; exact k)
      refine oo ?_
      refine AOps.nil (k _ ?_)
      refine AWp.seq fun _ K_24 => ?_
      refine sd mo fun K k => ?_
      iterate 8 refine dd ?_
      obtain ⟨r5, hx_25, hb_14⟩ := bind_some hb_14
      refine dcl (wdz o1.s mark1 from1 _ hx_25) ?_
      iterate 6 refine dd ?_
      obtain ⟨r6, hx_26, hb_14⟩ := bind_some hb_14
      refine dcl (wdz o1.t mark1 from1 _ hx_26) ?_
      refine dd ?_
      refine DOps.bar (by kernel_rfl) ?_
      refine BOps.hard (by kernel_rfl) ?_
      obtain ⟨r7, hx_27, hb_14⟩ := bind_some hb_14
      refine clU [(0, 0), (1, 1), (2, 2), (3, 3), (4, 4)] [] (ih o1 o2 o3 M2 (IntKind.i64.wrap (mark1 + 1)) (IntKind.u32.wrap ↑(BitVec.ofInt IntKind.u32.bits a1 &&& BitVec.ofInt IntKind.u32.bits r5).toNat) (IntKind.u32.wrap ↑(BitVec.ofInt IntKind.u32.bits b1 &&& BitVec.ofInt IntKind.u32.bits r6).toNat) _ hx_27) ?_
      refine AOps.nil ?_
      refine BOps.draw [] trivial (Nat.le_of_ble_eq_true rfl) ?_
      iterate 5 refine dd ?_
      refine DOps.nil (by kernel_rfl) (k _ ?_)
      refine sg fun K k => ?_
      refine oo ?_
      refine AOps.nil (k _ ?_)
      refine cd hb_14 (fun hb_14 => ?_) (fun hb_14 => ?_)
      ·refine sg fun K k => ?_
       obtain ⟨hg_29, hb_14⟩ := wai hb_14
       iterate 6 refine oo ?_
       refine AOps.nil (k _ ?_)
       refine AWp.sub (τ := ⟨[(10, .d (.imm 1 (wab (PD.int .i64) ([from1] ++ r7.1)))), (11, .d (.bool true))], [(0, ⟨72, 3, [.d (.agg [(.int .i64 o1.k), (.imm 2 (wab Rule.pd o1.s)), (.imm 2 (wab Rule.pd o1.t))])]⟩), (1, ⟨74, 1, [.func (.func 95) [.dptr 1 [(.fn (.func 94))] 0 0, .dptr 1 [(.imm 2 (wab Rule.pd o2))] 0 0, .dptr 1 [(.imm 2 (wab Rule.pd o3))] 0 0]]⟩), (2, ⟨117, 1, [.mp 4]⟩), (3, ⟨118, 1, [.func (.func 79) [.ptr 0 0 0, .ptr 1 0 0, .ptr 2 0 0, .ptr 3 0 0]]⟩), (4, ⟨117, 0, wam Arr3_Int.pd PD.bool r7.2.2⟩)], [], none⟩) sc ?_
       refine AWp.ret ?_
       refine lx hb_14 fun hx => ?_; cases hx; try dsimp only at h2_13
       cases h2_13; try dsimp only at h
       cases h; exact rtO
      ·refine AWp.skip ?_
       refine K_24 _ ?_
       refine AWp.reg ?_
       iterate 2 refine oo ?_
       refine AOps.nil ?_
       refine K_19 _ ?_
       refine AWp.reg ?_
       iterate 2 refine oo ?_
       refine AOps.nil ?_
       exact ln hb_14 sb
     ·refine AWp.exit ?_
      refine lx hb_14 fun hx => ?_; cases hx; try dsimp only at h2_13
      exact ln h2_13 sb
    ·rintro M1 h; dsimp only at h ⊢
     refine sg fun K k => ?_
     iterate 2 refine oo ?_
     refine oms (k := (⟨mark1, (IntKind.i64.wrap a1), (IntKind.i64.wrap b1)⟩ : Arr3_Int)) (L := M1) (v := true) (encV := PD.bool) wiW wo6 ?_
     refine AOps.nil (k _ ?_)
     refine sg fun K k => ?_
     iterate 2 refine oo ?_
     refine AOps.nil (k _ ?_)
     refine AWp.sub (τ := ⟨[(10, .d (.imm 1 (wab (PD.int .i64) []))), (11, .d (.bool false))], [(0, ⟨72, 3, [.d (.agg [(.int .i64 o1.k), (.imm 2 (wab Rule.pd o1.s)), (.imm 2 (wab Rule.pd o1.t))])]⟩), (1, ⟨74, 1, [.func (.func 95) [.dptr 1 [(.fn (.func 94))] 0 0, .dptr 1 [(.imm 2 (wab Rule.pd o2))] 0 0, .dptr 1 [(.imm 2 (wab Rule.pd o3))] 0 0]]⟩), (2, ⟨117, 1, [.mp 4]⟩), (3, ⟨118, 1, [.func (.func 79) [.ptr 0 0 0, .ptr 1 0 0, .ptr 2 0 0, .ptr 3 0 0]]⟩), (4, ⟨117, 0, wam Arr3_Int.pd PD.bool (wcC (⟨mark1, (IntKind.i64.wrap a1), (IntKind.i64.wrap b1)⟩ : Arr3_Int) true M1)⟩)], [], none⟩) sc ?_
     refine AWp.ret ?_
     cases h; exact rtO
end Go.Pv.Tryd

namespace Go.Pv.Tryd
open Go.Proofs Go.Pv
theorem wgy (w1 : Walker) (wanted1 : (List Rule)) (wanted2 : (List Rule)) (r : ((List Int) × Bool)) (h : wcw w1 wanted1 wanted2 = some r) : PureFn Tryd.prog G 49 [.d (.agg [(.int .i64 w1.k), (.imm 2 (wab Rule.pd w1.s)), (.imm 2 (wab Rule.pd w1.t))]), .func (.func 95) [.dptr 1 [(.fn (.func 94))] 0 0, .dptr 1 [(.imm 2 (wab Rule.pd wanted1))] 0 0, .dptr 1 [(.imm 2 (wab Rule.pd wanted2))] 0 0]] (.tuple [.d (.imm 1 (wab (PD.int .i64) r.1)), .d (.bool r.2)]) := by
 unfold wcw at h
 refine pf Tryd.func49 Tryd.ntmps49 ?_
 refine sg fun K k => ?_
 iterate 4 refine oo ?_
 refine AOps.nil (k _ ?_)
 refine sg fun K k => ?_
 refine omk (α := Arr3_Int) (β := Bool) Arr3_Int.pd PD.bool 1002 ?_
 iterate 2 refine oo ?_
 refine AOps.nil (k _ ?_)
 refine sg fun K k => ?_
 refine oo ?_
 refine AOps.nil (k _ ?_)
 refine sg fun K k => ?_
 iterate 2 refine oo ?_
 refine AOps.nil (k _ ?_)
 refine sd mo fun K k => ?_
 iterate 3 refine dd ?_
 obtain ⟨r1, hx_1, h⟩ := bind_some h
 refine dcl (wdT w1.s _ hx_1) ?_
 iterate 2 refine dd ?_
 obtain ⟨r2, hx_2, h⟩ := bind_some h
 refine dcl (wdT w1.t _ hx_2) ?_
 refine DOps.bar (by kernel_rfl) ?_
 refine BOps.hard (by kernel_rfl) ?_
 obtain ⟨r3, hx_3, h⟩ := bind_some h
 refine clU [(0, 1000), (1, 1001), (2, 1003), (3, 1004), (4, 1002)] [] (wfT 100 w1 wanted1 wanted2 [] 0 r1 r2 _ hx_3) ?_
 refine AOps.nil ?_
 refine BOps.draw [] trivial (Nat.le_of_ble_eq_true rfl) ?_
 iterate 4 refine dd ?_
 refine DOps.nil (by kernel_rfl) (k _ ?_)
 refine AWp.ret ?_
 cases h; exact rt
end Go.Pv.Tryd

namespace Go.Pv.Tryd
open Go.Proofs Go.Pv
theorem wlI (k1 : Int) (s1 : (List Rule)) (t1 : (List Rule)) (r : ((List Int) × Bool)) (h : weu k1 s1 t1 = some r) : PureFn Tryd.prog G 61 [.d (.int .i64 k1), .d (.imm 2 (wab Rule.pd s1)), .d (.imm 2 (wab Rule.pd t1))] (.tuple [.d (.imm 1 (wab (PD.int .i64) r.1)), .d (.bool r.2)]) := by
 unfold weu at h
 refine pf Tryd.func61 Tryd.ntmps61 ?_
 refine sg fun K k => ?_
 iterate 4 refine oo ?_
 refine AOps.nil (k _ ?_)
 refine sg fun K k => ?_
 iterate 2 refine oo ?_
 refine AOps.nil (k _ ?_)
 refine sg fun K k => ?_
 iterate 5 refine oo ?_
 refine AOps.sub (τ := ⟨[(12, .d (.agg [(.int .i64 k1), (.imm 2 (wab Rule.pd s1)), (.imm 2 (wab Rule.pd t1))])), (13, .func (.func 95) [.dptr 1 [(.fn (.func 94))] 0 0, .dptr 1 [(.imm 2 (wab Rule.pd s1))] 0 0, .dptr 1 [(.imm 2 (wab Rule.pd t1))] 0 0])], [], [], none⟩) sc ?_
 obtain ⟨r1, hx_1, h⟩ := bind_some h
 refine clC (wgy (⟨k1, s1, t1⟩ : Walker) s1 t1 _ hx_1) ?_
 iterate 4 refine oo ?_
 refine AOps.nil (k _ ?_)
 refine AWp.ret ?_
 cases h; exact rt
end Go.Pv.Tryd

namespace Go.Pv.Tryd
open Go.Proofs Go.Pv
theorem wlJ (k1 : Int) (s1 : (List Rule)) (t1 : (List Rule)) (r : ((List Int) × Int)) (h : wbT k1 s1 t1 = some r) : PureFn Tryd.prog G 32 [.d (.int .i64 k1), .d (.imm 2 (wab Rule.pd s1)), .d (.imm 2 (wab Rule.pd t1))] (.tuple [.d (.imm 1 (wab (PD.int .i64) r.1)), .d (.int .i64 r.2)]) := by
 unfold wbT at h
 refine pf Tryd.func32 Tryd.ntmps32 ?_
 refine sg fun K k => ?_
 iterate 2 refine oo ?_
 refine AOps.nil (k _ ?_)
 refine AWp.seq fun _ K_1 => ?_
 refine sg fun K k => ?_
 iterate 3 refine oo ?_
 refine ol ?_
 obtain ⟨r1, hx_2, h⟩ := bind_some h
 refine cl (wdn k1 [s1, t1] _ hx_2) ?_
 refine oo ?_
 refine AOps.nil (k _ ?_)
 refine sg fun K k => ?_
 iterate 2 refine oo ?_
 refine AOps.nil (k _ ?_)
 refine cd h (fun h => ?_) (fun h => ?_)
 ·refine sg fun K k => ?_
  iterate 3 refine oo ?_
  refine AOps.nil (k _ ?_)
  refine AWp.ret ?_
  cases h; exact rt
 ·refine AWp.skip ?_
  refine K_1 _ ?_
  refine sg fun K k => ?_
  iterate 3 refine oo ?_
  obtain ⟨r2, hx_4, h⟩ := bind_some h
  refine cl (wlI k1 s1 t1 _ hx_4) ?_
  iterate 2 refine oo ?_
  obtain ⟨r3, hx_5, h⟩ := bind_some h
  refine cl (wh3 r2.1 r2.2 _ hx_5) ?_
  iterate 4 refine oo ?_
  refine AOps.nil (k _ ?_)
  refine AWp.ret ?_
  cases h; exact rt
end Go.Pv.Tryd

namespace Go.Pv.Tryd
open Go.Proofs Go.Pv
theorem wjn (a1 : (List Node)) (b1 : (List Node)) (r : Bool) (h : wdl a1 b1 = some r) : PureFn Tryd.prog G 27 [.d (.imm 3 (wab Node.pd a1)), .d (.imm 3 (wab Node.pd b1))] (.d (.bool r)) := by
 unfold wdl at h
 refine pf Tryd.func27 Tryd.ntmps27 ?_
 refine sg fun K k => ?_
 refine oo ?_
 refine AOps.nil (k _ ?_)
 refine AWp.seq fun _ K_1 => ?_
 refine sg fun K k => ?_
 iterate 5 refine oo ?_
 refine AOps.nil (k _ ?_)
 refine cd h (fun h => ?_) (fun h => ?_)
 ·refine sg fun K k => ?_
  refine oo ?_
  refine AOps.nil (k _ ?_)
  refine AWp.ret ?_
  cases h; exact rt
 ·refine AWp.skip ?_
  refine K_1 _ ?_
  refine jm (ι := Unit) [] [] (fun i t => t) (fun i t => t) .inl h ?_ ?_
  ·intro _ hj_4 h
   refine sg fun K k => ?_
   refine oo ?_
   refine AOps.nil (k _ ?_)
   refine AWp.block ?_
   obtain ⟨x_9, hl_6, h2_7⟩ := bind_some hj_4
   refine lp (S := Int) [0, 1] [] (fun i t => (5, .d (.int .i64 i)) :: t) (fun i t => t) hl_6 ?_ ?_; exact sb; clear hl_6
   rintro i1 _ hb_8; unfold waQ at hb_8; try dsimp only at hb_8
   try dsimp only
   refine AWp.seq fun _ K_11 => ?_
   refine sg fun K k => ?_
   iterate 4 refine oo ?_
   refine AOps.nil (k _ ?_)
   refine cd hb_8 (fun hb_8 => ?_) (fun hb_8 => ?_)
   ·refine AWp.skip ?_
    refine K_11 _ ?_
    refine AWp.seq fun _ K_13 => ?_
    refine AWp.block ?_
    refine sd mo fun K k => ?_
    obtain ⟨e1, ⟨f_14, f_15, f_16, f_17⟩, hb_8⟩ := wak hb_8
    iterate 4 refine dd ?_
    refine dd ?_ (by intro K k; simp (disch := omega) only [go_sem, f_16, ↓reduceIte]; exact k)
    obtain ⟨e2, ⟨f_18, f_19, f_20, f_21⟩, hb_8⟩ := wak hb_8
    iterate 4 refine dd ?_
    refine dd ?_ (by intro K k; simp (disch := omega) only [go_sem, f_20, ↓reduceIte]; exact k)
    iterate 2 refine dd ?_
    rcases bt (decide (¬e1.Mark = e2.Mark)) with hg_22 | hg_22
    ·rw [hg_22]
     rw [hg_22, cond_true] at hb_8
     iterate 27 refine dd ?_
     refine DOps.nil (by kernel_rfl) (k _ ?_)
     refine cdt ?_
     refine sg fun K k => ?_
     refine oo ?_
     refine AOps.nil (k _ ?_)
     refine AWp.ret ?_
     refine lx hb_8 fun hx => ?_; cases hx; try dsimp only at h2_7
     cases h2_7; try dsimp only at h
     cases h; exact rt
    ·rw [hg_22]
     rw [hg_22, cond_false] at hb_8
     iterate 4 refine dd ?_
     refine dd ?_ (by intro K k; simp (disch := omega) only [go_sem, f_16, ↓reduceIte]; exact k)
     iterate 4 refine dd ?_
     refine dd ?_ (by intro K k; simp (disch := omega) only [go_sem, f_20, ↓reduceIte]; exact k)
     obtain ⟨r1, hx_24, hb_8⟩ := bind_some hb_8
     refine dcl (wcV e1.Cuts e2.Cuts _ hx_24) ?_
     iterate 3 refine dd ?_
     rcases bt (!r1) with hg_25 | hg_25
     ·rw [hg_25]
      rw [hg_25, cond_true] at hb_8
      iterate 13 refine dd ?_
      refine DOps.nil (by kernel_rfl) (k _ ?_)
      refine cdt ?_
      refine sg fun K k => ?_
      refine oo ?_
      refine AOps.nil (k _ ?_)
      refine AWp.ret ?_
      refine lx hb_8 fun hx => ?_; cases hx; try dsimp only at h2_7
      cases h2_7; try dsimp only at h
      cases h; exact rt
     ·rw [hg_25]
      rw [hg_25, cond_false] at hb_8
      iterate 4 refine dd ?_
      refine dd ?_ (by intro K k; simp (disch := omega) only [go_sem, f_16, ↓reduceIte]; exact k)
      iterate 4 refine dd ?_
      refine dd ?_ (by intro K k; simp (disch := omega) only [go_sem, f_20, ↓reduceIte]; exact k)
      obtain ⟨r2, hx_27, hb_8⟩ := bind_some hb_8
      refine dcl (wcV e1.To e2.To _ hx_27) ?_
      iterate 2 refine dd ?_
      refine DOps.nil (by kernel_rfl) (k _ ?_)
      refine cd hb_8 (fun hb_8 => ?_) (fun hb_8 => ?_)
      ·refine sg fun K k => ?_
       refine oo ?_
       refine AOps.nil (k _ ?_)
       refine AWp.ret ?_
       refine lx hb_8 fun hx => ?_; cases hx; try dsimp only at h2_7
       cases h2_7; try dsimp only at h
       cases h; exact rt
      ·refine AWp.skip ?_
       refine K_13 _ ?_
       refine AWp.reg ?_
       iterate 3 refine oo ?_
       refine AOps.nil ?_
       exact ln hb_8 sb
   ·refine AWp.exit ?_
    refine lx hb_8 fun hx => ?_; cases hx; try dsimp only at h2_7
    exact ln h2_7 sb
  ·rintro _ h; dsimp only at h ⊢
   refine sg fun K k => ?_
   refine oo ?_
   refine AOps.nil (k _ ?_)
   refine AWp.ret ?_
   cases h; exact rt
end Go.Pv.Tryd

namespace Go.Pv.Tryd
open Go.Proofs Go.Pv
theorem wkP (n1 : Int) (r : Bool) (h : we9 n1 = some r) : PureFn Tryd.prog G 98 [.d (.int .i64 n1)] (.d (.bool r)) := by
 unfold we9 at h
 refine pf Tryd.func98 Tryd.ntmps98 ?_
 refine sg fun K k => ?_
 refine oo ?_
 refine AOps.nil (k _ ?_)
 refine sg fun K k => ?_
 iterate 3 refine oo ?_
 refine ct 3 [] [] (fun  t => (8, .d (.bool ((decide (n1 < 0)) || (decide (999 < n1))))) :: t) ?_ ?_
 ·rcases bt (decide (n1 < 0)) with hg_2 | hg_2
  ·rw [hg_2]
   iterate 3 refine oo ?_
   refine AOps.nil ?_
   exact sb
  ·rw [hg_2]
   iterate 3 refine oo ?_
   refine AOps.nil ?_
   exact sb
 refine oo ?_
 refine AOps.nil (k _ ?_)
 refine AWp.ret ?_
 cases h; exact rt
end Go.Pv.Tryd

namespace Go.Pv.Tryd
open Go.Proofs Go.Pv
theorem whm (s1 : (List Int)) (r : Int) (h : wcb s1 = some r) : PureFn Tryd.prog G 70 [.d (.imm 1 (wab (PD.int .i64) s1)), .d (.fn (.func 98))] (.d (.int .i64 r)) := by
 unfold wcb at h
 refine pf Tryd.func70 Tryd.ntmps70 ?_
 refine sg fun K k => ?_
 refine oo ?_
 refine AOps.nil (k _ ?_)
 refine jm (ι := Unit) [] [] (fun i t => t) (fun i t => t) .inl h ?_ ?_
 ·intro _ hj_2 h
  refine sg fun K k => ?_
  iterate 3 refine oo ?_
  refine AOps.nil (k _ ?_)
  refine AWp.block ?_
  obtain ⟨x_7, hl_4, h2_5⟩ := bind_some hj_2
  refine lp (S := Int) [0, 1, 7] [] (fun i t => (8, .d (.int .i64 i)) :: t) (fun i t => t) hl_4 ?_ ?_; exact sb; clear hl_4
  rintro v1 _ hb_6; unfold wdr at hb_6; try dsimp only at hb_6
  try dsimp only
  refine sg fun K k => ?_
  refine oo ?_
  refine AOps.nil (k _ ?_)
  refine AWp.seq fun _ K_9 => ?_
  refine cd hb_6 (fun hb_6 => ?_) (fun hb_6 => ?_)
  ·refine AWp.skip ?_
   refine K_9 _ ?_
   refine AWp.seq fun _ K_11 => ?_
   refine AWp.block ?_
   refine sg fun K k => ?_
   iterate 2 refine oo ?_
   refine AOps.nil (k _ ?_)
   refine sg fun K k => ?_
   obtain ⟨e1, ⟨f_12, f_13, f_14, f_15⟩, hb_6⟩ := wak hb_6
   iterate 4 refine oo ?_
   refine oo ?_ (by intro K k; simp (disch := omega) only [go_sem, f_14, ↓reduceIte]; exact k)
   obtain ⟨r1, hx_16, hb_6⟩ := bind_some hb_6
   refine clV (wkP e1 _ hx_16) ?_
   refine AOps.nil (k _ ?_)
   refine cd hb_6 (fun hb_6 => ?_) (fun hb_6 => ?_)
   ·refine sg fun K k => ?_
    iterate 2 refine oo ?_
    refine AOps.nil (k _ ?_)
    refine AWp.ret ?_
    refine lx hb_6 fun hx => ?_; cases hx; try dsimp only at h2_5
    cases h2_5; try dsimp only at h
    cases h; exact rt
   ·refine AWp.skip ?_
    refine K_11 _ ?_
    refine AWp.reg ?_
    iterate 2 refine oo ?_
    refine AOps.nil ?_
    exact ln hb_6 sb
  ·refine AWp.exit ?_
   refine lx hb_6 fun hx => ?_; cases hx; try dsimp only at h2_5
   exact ln h2_5 sb
 ·rintro _ h; dsimp only at h ⊢
  refine sg fun K k => ?_
  refine oo ?_
  refine AOps.nil (k _ ?_)
  refine AWp.ret ?_
  cases h; exact rt
end Go.Pv.Tryd

namespace Go.Pv.Tryd
open Go.Proofs Go.Pv
theorem wgz (s1 : (List Int)) (r : Bool) (h : wcx s1 = some r) : PureFn Tryd.prog G 97 [.d (.imm 1 (wab (PD.int .i64) s1)), .d (.fn (.func 98))] (.d (.bool r)) := by
 unfold wcx at h
 refine pf Tryd.func97 Tryd.ntmps97 ?_
 refine sg fun K k => ?_
 refine oo ?_
 refine AOps.nil (k _ ?_)
 refine sg fun K k => ?_
 iterate 2 refine oo ?_
 obtain ⟨r1, hx_1, h⟩ := bind_some h
 refine clC (whm s1 _ hx_1) ?_
 iterate 2 refine oo ?_
 refine AOps.nil (k _ ?_)
 refine AWp.ret ?_
 cases h; exact rt
end Go.Pv.Tryd

namespace Go.Pv.Tryd
open Go.Proofs Go.Pv
theorem wh4 (k1 : Int) (l1 : (List Int)) (r : Bool) (h : wd9 k1 l1 = some r) : PureFn Tryd.prog G 63 [.d (.int .i64 k1), .d (.imm 1 (wab (PD.int .i64) l1))] (.d (.bool r)) := by
 unfold wd9 at h
 refine pf Tryd.func63 Tryd.ntmps63 ?_
 refine sg fun K k => ?_
 refine oo ?_
 refine AOps.nil (k _ ?_)
 refine sg fun K k => ?_
 iterate 5 refine oo ?_
 obtain ⟨b1, hc_1, h⟩ := bind_some h
 refine ct 4 [] [] (fun  t => (13, .d (.bool b1)) :: t) ?_ ?_
 ·rcases bt (decide ((l1.length : Int) = k1)) with hg_3 | hg_3
  ·rw [hg_3]
   rw [hg_3, cond_true] at hc_1
   refine oo ?_
   obtain ⟨r1, hx_2, hc_1⟩ := bind_some hc_1
   refine clC (wgz l1 _ hx_2) ?_
   iterate 2 refine oo ?_
   refine AOps.nil ?_
   cases hc_1
   exact sb
  ·rw [hg_3]
   rw [hg_3, cond_false] at hc_1
   iterate 4 refine oo ?_
   refine AOps.nil ?_
   cases hc_1
   exact sb
 refine oo ?_
 refine AOps.nil (k _ ?_)
 refine AWp.ret ?_
 cases h; exact rt
end Go.Pv.Tryd

namespace Go.Pv.Tryd
open Go.Proofs Go.Pv
theorem wiJ (r1 : Rule) (k1 : (List Int)) (r : Bool) (h : wcy r1 k1 = some r) : PureFn Tryd.prog G 100 [.d (.agg [(.imm 2 (wab Band.pd r1.Bands)), (.int .i64 r1.Code)]), .dptr 1 [(.imm 1 (wab (PD.int .i64) k1))] 0 0] (.d (.bool r)) := by
 unfold wcy at h
 refine pf Tryd.func100 Tryd.ntmps100 ?_
 refine sg fun K k => ?_
 iterate 2 refine oo ?_
 refine AOps.nil (k _ ?_)
 refine jm (ι := Unit) [] [] (fun i t => t) (fun i t => t) .inl h ?_ ?_
 ·intro _ hj_2 h
  refine sg fun K k => ?_
  iterate 4 refine oo ?_
  refine AOps.nil (k _ ?_)
  refine AWp.block ?_
  obtain ⟨x_7, hl_4, h2_5⟩ := bind_some hj_2
  refine lp (S := Int) [1, 7, 8] [] (fun i t => (9, .d (.int .i64 i)) :: t) (fun i t => t) hl_4 ?_ ?_; exact sb; clear hl_4
  rintro v1 _ hb_6; unfold wbY at hb_6; try dsimp only at hb_6
  try dsimp only
  refine sg fun K k => ?_
  refine oo ?_
  refine AOps.nil (k _ ?_)
  refine AWp.seq fun _ K_9 => ?_
  refine cd hb_6 (fun hb_6 => ?_) (fun hb_6 => ?_)
  ·refine AWp.skip ?_
   refine K_9 _ ?_
   refine AWp.seq fun _ K_11 => ?_
   refine AWp.block ?_
   refine sg fun K k => ?_
   obtain ⟨e1, ⟨f_12, f_13, f_14, f_15⟩, hb_6⟩ := wak hb_6
   iterate 2 refine oo ?_
   refine oo ?_ (by intro K k; simp (disch := omega) only [go_sem, f_14, ↓reduceIte]; exact k)
   iterate 3 refine oo ?_
   refine AOps.nil (k _ ?_)
   refine sd mo fun K k => ?_
   obtain ⟨e2, ⟨f_16, f_17, f_18, f_19⟩, hb_6⟩ := wak hb_6
   iterate 3 refine dd ?_
   refine dd ?_ (by intro K k; simp (disch := omega) only [go_sem, f_18, ↓reduceIte]; exact k)
   iterate 4 refine dd ?_
   rcases bt (decide (e2 < e1.Lo)) with hg_20 | hg_20
   ·rw [hg_20]
    rw [hg_20, cond_true] at hb_6
    iterate 8 refine dd ?_
    refine DOps.nil (by kernel_rfl) (k _ ?_)
    refine cdt ?_
    refine sg fun K k => ?_
    refine oo ?_
    refine AOps.nil (k _ ?_)
    refine AWp.ret ?_
    refine lx hb_6 fun hx => ?_; cases hx; try dsimp only at h2_5
    cases h2_5; try dsimp only at h
    cases h; exact rt
   ·rw [hg_20]
    rw [hg_20, cond_false] at hb_6
    iterate 3 refine dd ?_
    refine dd ?_ (by intro K k; simp (disch := omega) only [go_sem, f_18, ↓reduceIte]; exact k)
    iterate 4 refine dd ?_
    refine DOps.nil (by kernel_rfl) (k _ ?_)
    refine cd hb_6 (fun hb_6 => ?_) (fun hb_6 => ?_)
    ·refine sg fun K k => ?_
     refine oo ?_
     refine AOps.nil (k _ ?_)
     refine AWp.ret ?_
     refine lx hb_6 fun hx => ?_; cases hx; try dsimp only at h2_5
     cases h2_5; try dsimp only at h
     cases h; exact rt
    ·refine AWp.skip ?_
     refine K_11 _ ?_
     refine AWp.reg ?_
     iterate 2 refine oo ?_
     refine AOps.nil ?_
     exact ln hb_6 sb
  ·refine AWp.exit ?_
   refine lx hb_6 fun hx => ?_; cases hx; try dsimp only at h2_5
   exact ln h2_5 sb
 ·rintro _ h; dsimp only at h ⊢
  refine sg fun K k => ?_
  refine oo ?_
  refine AOps.nil (k _ ?_)
  refine AWp.ret ?_
  cases h; exact rt
end Go.Pv.Tryd

namespace Go.Pv.Tryd
open Go.Proofs Go.Pv
theorem wgZ (s1 : (List Rule)) (f1 : (List Int)) (r : Int) (h : wcJ s1 f1 = some r) : PureFn Tryd.prog G 99 [.d (.imm 2 (wab Rule.pd s1)), .func (.func 100) [.dptr 1 [(.imm 1 (wab (PD.int .i64) f1))] 0 0]] (.d (.int .i64 r)) := by
 unfold wcJ at h
 refine pf Tryd.func99 Tryd.ntmps99 ?_
 refine sg fun K k => ?_
 refine oo ?_
 refine AOps.nil (k _ ?_)
 refine jm (ι := Unit) [] [] (fun i t => t) (fun i t => t) .inl h ?_ ?_
 ·intro _ hj_2 h
  refine sg fun K k => ?_
  iterate 3 refine oo ?_
  refine AOps.nil (k _ ?_)
  refine AWp.block ?_
  obtain ⟨x_7, hl_4, h2_5⟩ := bind_some hj_2
  refine lp (S := Int) [0, 1, 7] [] (fun i t => (8, .d (.int .i64 i)) :: t) (fun i t => t) hl_4 ?_ ?_; exact sb; clear hl_4
  rintro v1 _ hb_6; unfold wdg at hb_6; try dsimp only at hb_6
  try dsimp only
  refine sg fun K k => ?_
  refine oo ?_
  refine AOps.nil (k _ ?_)
  refine AWp.seq fun _ K_9 => ?_
  refine cd hb_6 (fun hb_6 => ?_) (fun hb_6 => ?_)
  ·refine AWp.skip ?_
   refine K_9 _ ?_
   refine AWp.seq fun _ K_11 => ?_
   refine AWp.block ?_
   refine sg fun K k => ?_
   iterate 2 refine oo ?_
   refine AOps.nil (k _ ?_)
   refine sg fun K k => ?_
   obtain ⟨e1, ⟨f_12, f_13, f_14, f_15⟩, hb_6⟩ := wak hb_6
   iterate 4 refine oo ?_
   refine oo ?_ (by intro K k; simp (disch := omega) only [go_sem, f_14, ↓reduceIte]; exact k)
   obtain ⟨r1, hx_16, hb_6⟩ := bind_some hb_6
   refine clC (wiJ e1 f1 _ hx_16) ?_
   refine AOps.nil (k _ ?_)
   refine cd hb_6 (fun hb_6 => ?_) (fun hb_6 => ?_)
   ·refine sg fun K k => ?_
    iterate 2 refine oo ?_
    refine AOps.nil (k _ ?_)
    refine AWp.ret ?_
    refine lx hb_6 fun hx => ?_; cases hx; try dsimp only at h2_5
    cases h2_5; try dsimp only at h
    cases h; exact rt
   ·refine AWp.skip ?_
    refine K_11 _ ?_
    refine AWp.reg ?_
    iterate 2 refine oo ?_
    refine AOps.nil ?_
    exact ln hb_6 sb
  ·refine AWp.exit ?_
   refine lx hb_6 fun hx => ?_; cases hx; try dsimp only at h2_5
   exact ln h2_5 sb
 ·rintro _ h; dsimp only at h ⊢
  refine sg fun K k => ?_
  refine oo ?_
  refine AOps.nil (k _ ?_)
  refine AWp.ret ?_
  cases h; exact rt
end Go.Pv.Tryd

namespace Go.Pv.Tryd
open Go.Proofs Go.Pv
theorem wkQ (t1 : (List Rule)) (l1 : (List Int)) (r : Int) (h : wee t1 l1 = some r) : PureFn Tryd.prog G 64 [.d (.imm 2 (wab Rule.pd t1)), .d (.imm 1 (wab (PD.int .i64) l1))] (.d (.int .i64 r)) := by
 unfold wee at h
 refine pf Tryd.func64 Tryd.ntmps64 ?_
 refine sg fun K k => ?_
 iterate 2 refine oo ?_
 refine AOps.nil (k _ ?_)
 refine sg fun K k => ?_
 iterate 2 refine oo ?_
 refine AOps.sub (τ := ⟨[(5, .d (.imm 2 (wab Rule.pd t1))), (6, .func (.func 100) [.dptr 1 [(.imm 1 (wab (PD.int .i64) l1))] 0 0])], [], [], none⟩) sc ?_
 obtain ⟨r1, hx_1, h⟩ := bind_some h
 refine clC (wgZ t1 l1 _ hx_1) ?_
 refine oo ?_
 refine AOps.nil (k _ ?_)
 refine AWp.ret ?_
 cases h; exact rt
end Go.Pv.Tryd

namespace Go.Pv.Tryd
open Go.Proofs Go.Pv
theorem wmM (k1 : Int) (t1 : (List Rule)) (l1 : (List Int)) (r : (Int × Int × Int)) (h : weq k1 t1 l1 = some r) : PureFn Tryd.prog G 36 [.d (.int .i64 k1), .d (.imm 2 (wab Rule.pd t1)), .d (.imm 1 (wab (PD.int .i64) l1))] (.tuple [.d (.int .i64 r.1), .d (.int .i64 r.2.1), .d (.int .i64 r.2.2)]) := by
 unfold weq at h
 refine pf Tryd.func36 Tryd.ntmps36 ?_
 refine sg fun K k => ?_
 iterate 3 refine oo ?_
 refine AOps.nil (k _ ?_)
 refine AWp.seq fun _ K_1 => ?_
 refine sg fun K k => ?_
 iterate 2 refine oo ?_
 refine ol ?_
 obtain ⟨r1, hx_2, h⟩ := bind_some h
 refine cl (wdn k1 [t1] _ hx_2) ?_
 refine oo ?_
 refine AOps.nil (k _ ?_)
 refine sg fun K k => ?_
 iterate 2 refine oo ?_
 refine AOps.nil (k _ ?_)
 refine cd h (fun h => ?_) (fun h => ?_)
 ·refine sg fun K k => ?_
  iterate 4 refine oo ?_
  refine AOps.nil (k _ ?_)
  refine AWp.ret ?_
  cases h; exact rt
 ·refine AWp.skip ?_
  refine K_1 _ ?_
  refine AWp.seq fun _ K_4 => ?_
  refine sg fun K k => ?_
  iterate 2 refine oo ?_
  obtain ⟨r2, hx_5, h⟩ := bind_some h
  refine cl (wh4 k1 l1 _ hx_5) ?_
  refine oo ?_
  refine AOps.nil (k _ ?_)
  refine cd h (fun h => ?_) (fun h => ?_)
  ·refine sg fun K k => ?_
   iterate 3 refine oo ?_
   refine AOps.nil (k _ ?_)
   refine AWp.ret ?_
   cases h; exact rt
  ·refine AWp.skip ?_
   refine K_4 _ ?_
   refine sg fun K k => ?_
   iterate 2 refine oo ?_
   obtain ⟨r3, hx_7, h⟩ := bind_some h
   refine cl (wkQ t1 l1 _ hx_7) ?_
   refine oo ?_
   refine AOps.nil (k _ ?_)
   refine AWp.seq fun _ K_8 => ?_
   refine sg fun K k => ?_
   iterate 2 refine oo ?_
   refine AOps.nil (k _ ?_)
   refine cd h (fun h => ?_) (fun h => ?_)
   ·refine sg fun K k => ?_
    iterate 3 refine oo ?_
    refine AOps.nil (k _ ?_)
    refine AWp.ret ?_
    cases h; exact rt
   ·refine AWp.skip ?_
    refine K_8 _ ?_
    refine sg fun K k => ?_
    obtain ⟨e1, ⟨f_10, f_11, f_12, f_13⟩, h⟩ := wak h
    iterate 4 refine oo ?_
    refine oo ?_ (by intro K k; simp (disch := omega) only [go_sem, f_12, ↓reduceIte]; exact k)
    iterate 4 refine oo ?_
    refine AOps.nil (k _ ?_)
    refine AWp.ret ?_
    cases h; exact rt
end Go.Pv.Tryd

namespace Go.Pv.Tryd
open Go.Proofs Go.Pv
set_option maxHeartbeats 4000000 in
theorem wmN (k1 : Int) (d1 : (List Node)) (x1 : Node) (r : Bool) (h : wfj k1 d1 x1 = some r) : PureFn Tryd.prog G 69 [.d (.int .i64 k1), .d (.imm 3 (wab Node.pd d1)), .d (.agg [(.int .i64 x1.Mark), (.imm 1 (wab (PD.int .i64) x1.Cuts)), (.imm 1 (wab (PD.int .i64) x1.To))])] (.d (.bool r)) := by
 unfold wfj at h
 refine pf Tryd.func69 Tryd.ntmps69 ?_
 refine sg fun K k => ?_
 iterate 2 refine oo ?_
 refine AOps.nil (k _ ?_)
 refine AWp.seq fun _ K_1 => ?_
 refine sg fun K k => ?_
 iterate 4 refine oo ?_
 refine ct 5 [1, 5] [1000] (fun  t => (19, .d (.bool ((decide (x1.Mark < 0)) || (decide (k1 ≤ x1.Mark))))) :: t) ?_ ?_
 ·rcases bt (decide (x1.Mark < 0)) with hg_3 | hg_3
  ·rw [hg_3]
   iterate 5 refine oo ?_
   refine AOps.nil ?_
   exact sb
  ·rw [hg_3]
   iterate 5 refine oo ?_
   refine AOps.nil ?_
   exact sb
 refine oo ?_
 refine ct 5 [1, 5] [1000] (fun  t => (25, .d (.bool (((decide (x1.Mark < 0)) || (decide (k1 ≤ x1.Mark))) || (decide ((x1.Cuts.length : Int) = 0))))) :: t) ?_ ?_
 ·rcases bt ((decide (x1.Mark < 0)) || (decide (k1 ≤ x1.Mark))) with hg_5 | hg_5
  ·rw [hg_5]
   iterate 5 refine oo ?_
   refine AOps.nil ?_
   exact sb
  ·rw [hg_5]
   iterate 5 refine oo ?_
   refine AOps.nil ?_
   exact sb
 refine oo ?_
 refine ct 8 [1, 5] [1000] (fun  t => (34, .d (.bool ((((decide (x1.Mark < 0)) || (decide (k1 ≤ x1.Mark))) || (decide ((x1.Cuts.length : Int) = 0))) || (decide (¬(x1.To.length : Int) = (x1.Cuts.length : Int)))))) :: t) ?_ ?_
 ·rcases bt (((decide (x1.Mark < 0)) || (decide (k1 ≤ x1.Mark))) || (decide ((x1.Cuts.length : Int) = 0))) with hg_7 | hg_7
  ·rw [hg_7]
   iterate 8 refine oo ?_
   refine AOps.nil ?_
   exact sb
  ·rw [hg_7]
   iterate 8 refine oo ?_
   refine AOps.nil ?_
   exact sb
 refine oo ?_
 obtain ⟨b1, hc_8, h⟩ := bind_some h
 refine ct 10 [1, 5] [1000] (fun  t => (45, .d (.bool b1)) :: t) ?_ ?_
 ·rcases bt ((((decide (x1.Mark < 0)) || (decide (k1 ≤ x1.Mark))) || (decide ((x1.Cuts.length : Int) = 0))) || (decide (¬(x1.To.length : Int) = (x1.Cuts.length : Int)))) with hg_13 | hg_13
  ·rw [hg_13]
   rw [hg_13, cond_true] at hc_8
   iterate 10 refine oo ?_
   refine AOps.nil ?_
   cases hc_8
   exact sb
  ·rw [hg_13]
   rw [hg_13, cond_false] at hc_8
   obtain ⟨e1, ⟨f_9, f_10, f_11, f_12⟩, hc_8⟩ := wak hc_8
   try simp only [Int.toNat_natCast] at f_11 f_12
   iterate 7 refine oo ?_
   refine oo ?_ (by intro K k; simp (disch := omega) only [go_sem, f_11, Int.toNat_natCast, ↓reduceIte]; exact k)
   iterate 2 refine oo ?_
   refine AOps.nil ?_
   cases hc_8
   exact sb
 refine AOps.nil (k _ ?_)
 refine cd h (fun h => ?_) (fun h => ?_)
 ·refine sg fun K k => ?_
  refine oo ?_
  refine AOps.nil (k _ ?_)
  refine AWp.ret ?_
  cases h; exact rt
 ·refine AWp.skip ?_
  refine K_1 _ ?_
  refine sg fun K k => ?_
  refine oo ?_
  refine AOps.nil (k _ ?_)
  refine jm (ι := Unit) [] [] (fun i t => t) (fun i t => t) .inl h ?_ ?_
  ·intro _ hj_16 h
   refine sg fun K k => ?_
   iterate 4 refine oo ?_
   refine AOps.nil (k _ ?_)
   refine AWp.block ?_
   obtain ⟨x_21, hl_18, h2_19⟩ := bind_some hj_16
   refine lp (S := (Int × Int)) [1, 5, 47, 48] [1000] (fun i t => (7, .d (.int .i64 i.1)) :: (49, .d (.int .i64 i.2)) :: t) (fun i t => t) hl_18 ?_ ?_; exact sb; clear hl_18
   rintro ⟨last1, v1⟩ _ hb_20; unfold wds at hb_20; try dsimp only at hb_20
   try dsimp only
   refine sg fun K k => ?_
   refine oo ?_
   refine AOps.nil (k _ ?_)
   refine AWp.seq fun _ K_23 => ?_
   refine cd hb_20 (fun hb_20 => ?_) (fun hb_20 => ?_)
   ·refine AWp.skip ?_
    refine K_23 _ ?_
    refine AWp.seq fun _ K_25 => ?_
    refine AWp.block ?_
    refine sg fun K k => ?_
    obtain ⟨e2, ⟨f_26, f_27, f_28, f_29⟩, hb_20⟩ := wak hb_20
    iterate 2 refine oo ?_
    refine oo ?_ (by intro K k; simp (disch := omega) only [go_sem, f_28, ↓reduceIte]; exact k)
    iterate 2 refine oo ?_
    refine AOps.nil (k _ ?_)
    refine AWp.seq fun _ K_30 => ?_
    refine sg fun K k => ?_
    iterate 3 refine oo ?_
    refine AOps.nil (k _ ?_)
    refine cd hb_20 (fun hb_20 => ?_) (fun hb_20 => ?_)
    ·refine sg fun K k => ?_
     refine oo ?_
     refine AOps.nil (k _ ?_)
     refine AWp.ret ?_
     refine lx hb_20 fun hx => ?_; cases hx; try dsimp only at h2_19
     cases h2_19; try dsimp only at h
     cases h; exact rt
    ·refine AWp.skip ?_
     refine K_30 _ ?_
     refine sg fun K k => ?_
     iterate 2 refine oo ?_
     refine AOps.nil (k _ ?_)
     refine sg fun K k => ?_
     obtain ⟨e3, ⟨f_32, f_33, f_34, f_35⟩, hb_20⟩ := wak hb_20
     iterate 4 refine oo ?_
     refine oo ?_ (by intro K k; simp (disch := omega) only [go_sem, f_34, ↓reduceIte]; exact k)
     refine oo ?_
     refine AOps.nil (k _ ?_)
     refine sd mo fun K k => ?_
     iterate 5 refine dd ?_
     rcases bt (decide ((d1.length : Int) ≤ e3)) with hg_36 | hg_36
     ·rw [hg_36]
      rw [hg_36, cond_true] at hb_20
      iterate 17 refine dd ?_
      refine DOps.nil (by kernel_rfl) (k _ ?_)
      refine cdt ?_
      refine sg fun K k => ?_
      refine oo ?_
      refine AOps.nil (k _ ?_)
      refine AWp.ret ?_
      refine lx hb_20 fun hx => ?_; cases hx; try dsimp only at h2_19
      cases h2_19; try dsimp only at h
      cases h; exact rt
     ·rw [hg_36]
      rw [hg_36, cond_false] at hb_20
      iterate 4 refine dd ?_
      rcases bt (decide (e3 < (-101))) with hg_38 | hg_38
      ·rw [hg_38]
       rw [hg_38, cond_true] at hb_20
       iterate 13 refine dd ?_
       refine DOps.nil (by kernel_rfl) (k _ ?_)
       refine cdt ?_
       refine sg fun K k => ?_
       refine oo ?_
       refine AOps.nil (k _ ?_)
       refine AWp.ret ?_
       refine lx hb_20 fun hx => ?_; cases hx; try dsimp only at h2_19
       cases h2_19; try dsimp only at h
       cases h; exact rt
      ·rw [hg_38]
       rw [hg_38, cond_false] at hb_20
       iterate 3 refine dd ?_
       rcases bt (decide (0 ≤ e3)) with hg_40 | hg_40
       ·rw [hg_40]
        rw [hg_40, cond_true] at hb_20
        obtain ⟨e4, ⟨f_41, f_42, f_43, f_44⟩, hb_20⟩ := wak hb_20
        iterate 4 refine dd ?_
        refine dd ?_ (by intro K k; simp (disch := omega) only [go_sem, f_43, ↓reduceIte]; exact k)
        iterate 5 refine dd ?_
        refine DOps.nil (by kernel_rfl) (k _ ?_)
        refine cd hb_20 (fun hb_20 => ?_) (fun hb_20 => ?_)
        ·refine sg fun K k => ?_
         refine oo ?_
         refine AOps.nil (k _ ?_)
         refine AWp.ret ?_
         refine lx hb_20 fun hx => ?_; cases hx; try dsimp only at h2_19
         cases h2_19; try dsimp only at h
         cases h; exact rt
        ·refine AWp.skip ?_
         refine K_25 _ ?_
         refine AWp.reg ?_
         iterate 2 refine oo ?_
         refine AOps.nil ?_
         exact ln hb_20 sb
       ·rw [hg_40]
        rw [hg_40, cond_false] at hb_20
        iterate 10 refine dd ?_
        refine DOps.nil (by kernel_rfl) (k _ ?_)
        refine cdf ?_
        refine AWp.skip ?_
        refine K_25 _ ?_
        refine AWp.reg ?_
        iterate 2 refine oo ?_
        refine AOps.nil ?_
        exact ln hb_20 sb
   ·refine AWp.exit ?_
    refine lx hb_20 fun hx => ?_; cases hx; try dsimp only at h2_19
    exact ln h2_19 sb
  ·rintro _ h; dsimp only at h ⊢
   refine sg fun K k => ?_
   refine oo ?_
   refine AOps.nil (k _ ?_)
   refine AWp.ret ?_
   cases h; exact rt
end Go.Pv.Tryd

namespace Go.Pv.Tryd
open Go.Proofs Go.Pv
theorem wjo (x1 : Node) (k1 : Int) (k2 : (List Node)) (r : Bool) (h : wcE x1 k1 k2 = some r) : PureFn Tryd.prog G 68 [.d (.agg [(.int .i64 x1.Mark), (.imm 1 (wab (PD.int .i64) x1.Cuts)), (.imm 1 (wab (PD.int .i64) x1.To))]), .dptr 1 [(.int .i64 k1)] 0 0, .dptr 1 [(.imm 3 (wab Node.pd k2))] 0 0] (.d (.bool r)) := by
 unfold wcE at h
 refine pf Tryd.func68 Tryd.ntmps68 ?_
 refine sg fun K k => ?_
 iterate 2 refine oo ?_
 refine AOps.nil (k _ ?_)
 refine sg fun K k => ?_
 iterate 3 refine oo ?_
 obtain ⟨r1, hx_1, h⟩ := bind_some h
 refine cl (wmN k1 k2 x1 _ hx_1) ?_
 iterate 2 refine oo ?_
 refine AOps.nil (k _ ?_)
 refine AWp.ret ?_
 cases h; exact rt
end Go.Pv.Tryd

namespace Go.Pv.Tryd
open Go.Proofs Go.Pv
theorem wg0 (s1 : (List Node)) (f1 : Int) (f2 : (List Node)) (r : Int) (h : wb2 s1 f1 f2 = some r) : PureFn Tryd.prog G 102 [.d (.imm 3 (wab Node.pd s1)), .func (.func 68) [.dptr 1 [(.int .i64 f1)] 0 0, .dptr 1 [(.imm 3 (wab Node.pd f2))] 0 0]] (.d (.int .i64 r)) := by
 unfold wb2 at h
 refine pf Tryd.func102 Tryd.ntmps102 ?_
 refine sg fun K k => ?_
 refine oo ?_
 refine AOps.nil (k _ ?_)
 refine jm (ι := Unit) [] [] (fun i t => t) (fun i t => t) .inl h ?_ ?_
 ·intro _ hj_2 h
  refine sg fun K k => ?_
  iterate 3 refine oo ?_
  refine AOps.nil (k _ ?_)
  refine AWp.block ?_
  obtain ⟨x_7, hl_4, h2_5⟩ := bind_some hj_2
  refine lp (S := Int) [0, 1, 7] [] (fun i t => (8, .d (.int .i64 i)) :: t) (fun i t => t) hl_4 ?_ ?_; exact sb; clear hl_4
  rintro v1 _ hb_6; unfold wdh at hb_6; try dsimp only at hb_6
  try dsimp only
  refine sg fun K k => ?_
  refine oo ?_
  refine AOps.nil (k _ ?_)
  refine AWp.seq fun _ K_9 => ?_
  refine cd hb_6 (fun hb_6 => ?_) (fun hb_6 => ?_)
  ·refine AWp.skip ?_
   refine K_9 _ ?_
   refine AWp.seq fun _ K_11 => ?_
   refine AWp.block ?_
   refine sg fun K k => ?_
   iterate 2 refine oo ?_
   refine AOps.nil (k _ ?_)
   refine sg fun K k => ?_
   obtain ⟨e1, ⟨f_12, f_13, f_14, f_15⟩, hb_6⟩ := wak hb_6
   iterate 4 refine oo ?_
   refine oo ?_ (by intro K k; simp (disch := omega) only [go_sem, f_14, ↓reduceIte]; exact k)
   obtain ⟨r1, hx_16, hb_6⟩ := bind_some hb_6
   refine clC (wjo e1 f1 f2 _ hx_16) ?_
   refine AOps.nil (k _ ?_)
   refine cd hb_6 (fun hb_6 => ?_) (fun hb_6 => ?_)
   ·refine sg fun K k => ?_
    iterate 2 refine oo ?_
    refine AOps.nil (k _ ?_)
    refine AWp.ret ?_
    refine lx hb_6 fun hx => ?_; cases hx; try dsimp only at h2_5
    cases h2_5; try dsimp only at h
    cases h; exact rt
   ·refine AWp.skip ?_
    refine K_11 _ ?_
    refine AWp.reg ?_
    iterate 2 refine oo ?_
    refine AOps.nil ?_
    exact ln hb_6 sb
  ·refine AWp.exit ?_
   refine lx hb_6 fun hx => ?_; cases hx; try dsimp only at h2_5
   exact ln h2_5 sb
 ·rintro _ h; dsimp only at h ⊢
  refine sg fun K k => ?_
  refine oo ?_
  refine AOps.nil (k _ ?_)
  refine AWp.ret ?_
  cases h; exact rt
end Go.Pv.Tryd

namespace Go.Pv.Tryd
open Go.Proofs Go.Pv
theorem wgA (s1 : (List Node)) (f1 : Int) (f2 : (List Node)) (r : Bool) (h : wbQ s1 f1 f2 = some r) : PureFn Tryd.prog G 67 [.d (.imm 3 (wab Node.pd s1)), .func (.func 68) [.dptr 1 [(.int .i64 f1)] 0 0, .dptr 1 [(.imm 3 (wab Node.pd f2))] 0 0]] (.d (.bool r)) := by
 unfold wbQ at h
 refine pf Tryd.func67 Tryd.ntmps67 ?_
 refine sg fun K k => ?_
 refine oo ?_
 refine AOps.nil (k _ ?_)
 refine sg fun K k => ?_
 iterate 2 refine oo ?_
 obtain ⟨r1, hx_1, h⟩ := bind_some h
 refine clC (wg0 s1 f1 f2 _ hx_1) ?_
 iterate 2 refine oo ?_
 refine AOps.nil (k _ ?_)
 refine AWp.ret ?_
 cases h; exact rt
end Go.Pv.Tryd

namespace Go.Pv.Tryd
open Go.Proofs Go.Pv
theorem wjp (c1 : Int) (k1 : (List Int)) (k2 : Int) (k3 : (List Int)) (k4 : (List Int)) (r : Bool) (h : wcF c1 k1 k2 k3 k4 = some r) : PureFn Tryd.prog G 71 [.d (.int .i64 c1), .dptr 1 [(.imm 1 (wab (PD.int .i64) k1))] 0 0, .dptr 3 [.agg [(.int .i64 k2), (.imm 1 (wab (PD.int .i64) k3)), (.imm 1 (wab (PD.int .i64) k4))]] 0 0] (.d (.bool r)) := by
 unfold wcF at h
 refine pf Tryd.func71 Tryd.ntmps71 ?_
 refine sg fun K k => ?_
 refine oo ?_
 refine AOps.nil (k _ ?_)
 refine sg fun K k => ?_
 obtain ⟨e1, ⟨f_1, f_2, f_3, f_4⟩, h⟩ := wak h
 iterate 4 refine oo ?_
 refine oo ?_ (by intro K k; simp (disch := omega) only [go_sem, f_3, ↓reduceIte]; exact k)
 iterate 3 refine oo ?_
 refine AOps.nil (k _ ?_)
 refine AWp.ret ?_
 cases h; exact rt
end Go.Pv.Tryd

namespace Go.Pv.Tryd
open Go.Proofs Go.Pv
theorem whn (s1 : (List Int)) (f1 : (List Int)) (f2 : Int) (f3 : (List Int)) (f4 : (List Int)) (r : Int) (h : wcc s1 f1 f2 f3 f4 = some r) : PureFn Tryd.prog G 70 [.d (.imm 1 (wab (PD.int .i64) s1)), .func (.func 71) [.dptr 1 [(.imm 1 (wab (PD.int .i64) f1))] 0 0, .dptr 3 [.agg [(.int .i64 f2), (.imm 1 (wab (PD.int .i64) f3)), (.imm 1 (wab (PD.int .i64) f4))]] 0 0]] (.d (.int .i64 r)) := by
 unfold wcc at h
 refine pf Tryd.func70 Tryd.ntmps70 ?_
 refine sg fun K k => ?_
 refine oo ?_
 refine AOps.nil (k _ ?_)
 refine jm (ι := Unit) [] [] (fun i t => t) (fun i t => t) .inl h ?_ ?_
 ·intro _ hj_2 h
  refine sg fun K k => ?_
  iterate 3 refine oo ?_
  refine AOps.nil (k _ ?_)
  refine AWp.block ?_
  obtain ⟨x_7, hl_4, h2_5⟩ := bind_some hj_2
  refine lp (S := Int) [0, 1, 7] [] (fun i t => (8, .d (.int .i64 i)) :: t) (fun i t => t) hl_4 ?_ ?_; exact sb; clear hl_4
  rintro v1 _ hb_6; unfold wdt at hb_6; try dsimp only at hb_6
  try dsimp only
  refine sg fun K k => ?_
  refine oo ?_
  refine AOps.nil (k _ ?_)
  refine AWp.seq fun _ K_9 => ?_
  refine cd hb_6 (fun hb_6 => ?_) (fun hb_6 => ?_)
  ·refine AWp.skip ?_
   refine K_9 _ ?_
   refine AWp.seq fun _ K_11 => ?_
   refine AWp.block ?_
   refine sg fun K k => ?_
   iterate 2 refine oo ?_
   refine AOps.nil (k _ ?_)
   refine sg fun K k => ?_
   obtain ⟨e1, ⟨f_12, f_13, f_14, f_15⟩, hb_6⟩ := wak hb_6
   iterate 4 refine oo ?_
   refine oo ?_ (by intro K k; simp (disch := omega) only [go_sem, f_14, ↓reduceIte]; exact k)
   obtain ⟨r1, hx_16, hb_6⟩ := bind_some hb_6
   refine clC (wjp e1 f1 f2 f3 f4 _ hx_16) ?_
   refine AOps.nil (k _ ?_)
   refine cd hb_6 (fun hb_6 => ?_) (fun hb_6 => ?_)
   ·refine sg fun K k => ?_
    iterate 2 refine oo ?_
    refine AOps.nil (k _ ?_)
    refine AWp.ret ?_
    refine lx hb_6 fun hx => ?_; cases hx; try dsimp only at h2_5
    cases h2_5; try dsimp only at h
    cases h; exact rt
   ·refine AWp.skip ?_
    refine K_11 _ ?_
    refine AWp.reg ?_
    iterate 2 refine oo ?_
    refine AOps.nil ?_
    exact ln hb_6 sb
  ·refine AWp.exit ?_
   refine lx hb_6 fun hx => ?_; cases hx; try dsimp only at h2_5
   exact ln h2_5 sb
 ·rintro _ h; dsimp only at h ⊢
  refine sg fun K k => ?_
  refine oo ?_
  refine AOps.nil (k _ ?_)
  refine AWp.ret ?_
  cases h; exact rt
end Go.Pv.Tryd

namespace Go.Pv.Tryd
open Go.Proofs Go.Pv
set_option maxHeartbeats 4000000 in
theorem wlK (k1 : Int) (d1 : (List Node)) (l1 : (List Int)) (r : (Int × Int)) (h : wdQ k1 d1 l1 = some r) : PureFn Tryd.prog G 38 [.d (.int .i64 k1), .d (.imm 3 (wab Node.pd d1)), .d (.imm 1 (wab (PD.int .i64) l1))] (.tuple [.d (.int .i64 r.1), .d (.int .i64 r.2)]) := by
 unfold wdQ at h
 refine pf Tryd.func38 Tryd.ntmps38 ?_
 refine sg fun K k => ?_
 iterate 5 refine oo ?_
 refine AOps.nil (k _ ?_)
 refine AWp.seq fun _ K_1 => ?_
 refine sg fun K k => ?_
 refine oo ?_
 obtain ⟨r1, hx_2, h⟩ := bind_some h
 refine cl (wh2 k1 _ hx_2) ?_
 iterate 2 refine oo ?_
 obtain ⟨b1, hc_3, h⟩ := bind_some h
 refine ct 5 [3, 4, 5] [1000, 1001, 1002] (fun  t => (18, .d (.bool b1)) :: t) ?_ ?_
 ·rcases bt (!r1) with hg_5 | hg_5
  ·rw [hg_5]
   rw [hg_5, cond_true] at hc_3
   iterate 5 refine oo ?_
   refine AOps.nil ?_
   cases hc_3
   exact sb
  ·rw [hg_5]
   rw [hg_5, cond_false] at hc_3
   iterate 2 refine oo ?_
   obtain ⟨r2, hx_4, hc_3⟩ := bind_some hc_3
   refine cl (wh4 k1 l1 _ hx_4) ?_
   iterate 2 refine oo ?_
   refine AOps.nil ?_
   cases hc_3
   exact sb
 refine oo ?_
 refine ct 4 [3, 4, 5] [1000, 1001, 1002] (fun  t => (23, .d (.bool (b1 || (decide ((d1.length : Int) = 0))))) :: t) ?_ ?_
 ·rcases bt b1 with hg_7 | hg_7
  ·rw [hg_7]
   iterate 4 refine oo ?_
   refine AOps.nil ?_
   exact sb
  ·rw [hg_7]
   iterate 4 refine oo ?_
   refine AOps.nil ?_
   exact sb
 refine oo ?_
 refine ct 4 [3, 4, 5] [1000, 1001, 1002] (fun  t => (28, .d (.bool ((b1 || (decide ((d1.length : Int) = 0))) || (decide (200000 < (d1.length : Int)))))) :: t) ?_ ?_
 ·rcases bt (b1 || (decide ((d1.length : Int) = 0))) with hg_9 | hg_9
  ·rw [hg_9]
   iterate 4 refine oo ?_
   refine AOps.nil ?_
   exact sb
  ·rw [hg_9]
   iterate 4 refine oo ?_
   refine AOps.nil ?_
   exact sb
 refine oo ?_
 obtain ⟨b2, hc_10, h⟩ := bind_some h
 refine ct 4 [5] [1002] (fun  t => (4, .dptr 1 [(.imm 3 (wab Node.pd d1))] 0 0) :: (33, .d (.bool b2)) :: t) ?_ ?_
 ·rcases bt ((b1 || (decide ((d1.length : Int) = 0))) || (decide (200000 < (d1.length : Int)))) with hg_12 | hg_12
  ·rw [hg_12]
   rw [hg_12, cond_true] at hc_10
   iterate 4 refine oo ?_
   refine AOps.nil ?_
   cases hc_10
   exact sc
  ·rw [hg_12]
   rw [hg_12, cond_false] at hc_10
   iterate 2 refine oo ?_
   refine AOps.sub (τ := ⟨[(4, .dptr 1 [(.imm 3 (wab Node.pd d1))] 0 0), (5, .ptr 1002 0 0), (29, .d (.bool false)), (30, .d (.imm 3 (wab Node.pd d1))), (31, .func (.func 68) [.dptr 1 [(.int .i64 k1)] 0 0, .dptr 1 [(.imm 3 (wab Node.pd d1))] 0 0])], [(1002, ⟨26, 1, [.d (.imm 1 (wab (PD.int .i64) l1))]⟩)], [], none⟩) sc ?_
   obtain ⟨r3, hx_11, hc_10⟩ := bind_some hc_10
   refine clC (wgA d1 k1 d1 _ hx_11) ?_
   refine oo ?_
   refine AOps.nil ?_
   cases hc_10
   exact sb
 refine AOps.nil (k _ ?_)
 refine cd h (fun h => ?_) (fun h => ?_)
 ·refine sg fun K k => ?_
  iterate 2 refine oo ?_
  refine AOps.nil (k _ ?_)
  refine AWp.ret ?_
  cases h; exact rt
 ·refine AWp.skip ?_
  refine K_1 _ ?_
  refine sg fun K k => ?_
  refine oo ?_
  refine AOps.nil (k _ ?_)
  refine jn (α := Int) [] [] (fun i t => (8, .d (.int .i64 i)) :: t) (fun i t => t) h ?_ ?_
  ·intro _ hj_15
   refine AWp.block ?_
   obtain ⟨x_20, hl_17, h2_18⟩ := bind_some hj_15
   refine lp (S := Int) [4] [] (fun i t => (5, .dptr 1 [(.imm 1 (wab (PD.int .i64) l1))] 0 0) :: (8, .d (.int .i64 i)) :: t) (fun i t => t) hl_17 ?_ ?_; exact sc; clear hl_17
   rintro at2 _ hb_19; unfold wcp at hb_19; try dsimp only at hb_19
   try dsimp only
   refine AWp.seq fun _ K_22 => ?_
   refine sg fun K k => ?_
   iterate 2 refine oo ?_
   refine AOps.nil (k _ ?_)
   refine cd hb_19 (fun hb_19 => ?_) (fun hb_19 => ?_)
   ·refine AWp.skip ?_
    refine K_22 _ ?_
    refine AWp.block ?_
    refine sg fun K k => ?_
    obtain ⟨e1, ⟨f_24, f_25, f_26, f_27⟩, hb_19⟩ := wak hb_19
    iterate 3 refine oo ?_
    refine oo ?_ (by intro K k; simp (disch := omega) only [go_sem, f_26, ↓reduceIte]; exact k)
    iterate 2 refine oo ?_
    refine AOps.nil (k _ ?_)
    refine AWp.sub (τ := ⟨[(4, .dptr 1 [(.imm 3 (wab Node.pd d1))] 0 0), (5, .dptr 1 [(.imm 1 (wab (PD.int .i64) l1))] 0 0), (8, .d (.int .i64 at2)), (9, .dptr 3 [.agg [(.int .i64 e1.Mark), (.imm 1 (wab (PD.int .i64) e1.Cuts)), (.imm 1 (wab (PD.int .i64) e1.To))]] 0 0)], [], [], none⟩) sc ?_
    refine AWp.draw mo [] trivial ?_
    iterate 5 refine dd ?_
    obtain ⟨r4, hx_28, hb_19⟩ := bind_some hb_19
    refine wtp (whn e1.Cuts l1 e1.Mark e1.Cuts e1.To _ hx_28) ?_
    obtain ⟨e2, ⟨f_29, f_30, f_31, f_32⟩, hb_19⟩ := wak hb_19
    refine dd ?_
    refine dd ?_ (by intro K k; simp (disch := omega) only [go_sem, f_31, ↓reduceIte]; exact k)
    refine dd ?_
    refine DOps.nil (by kernel_rfl) ?_
    exact ln hb_19 sb
   ·refine AWp.exit ?_
    refine lx hb_19 fun hx => ?_; cases hx; try dsimp only at h2_18
    cases h2_18; exact sb
  ·rintro at1 h; dsimp only at h ⊢
   refine AWp.seq fun _ K_33 => ?_
   refine sg fun K k => ?_
   iterate 2 refine oo ?_
   refine AOps.nil (k _ ?_)
   refine cd h (fun h => ?_) (fun h => ?_)
   ·refine sg fun K k => ?_
    iterate 2 refine oo ?_
    refine AOps.nil (k _ ?_)
    refine AWp.ret ?_
    cases h; exact rt
   ·refine AWp.skip ?_
    refine K_33 _ ?_
    refine sg fun K k => ?_
    iterate 4 refine oo ?_
    refine AOps.nil (k _ ?_)
    refine AWp.ret ?_
    cases h; exact rt
end Go.Pv.Tryd

namespace Go.Pv.Tryd
open Go.Proofs Go.Pv
set_option maxHeartbeats 4000000 in
theorem wgk (k1 : Int) (s1 : (List Rule)) (t1 : (List Rule)) (thing1 : (List Int)) (r : Bool) (h : wci k1 s1 t1 thing1 = some r) : PureFn Tryd.prog G 17 [.d (.int .i64 k1), .d (.imm 2 (wab Rule.pd s1)), .d (.imm 2 (wab Rule.pd t1)), .d (.imm 1 (wab (PD.int .i64) thing1))] (.d (.bool r)) := by
 unfold wci at h
 refine pf Tryd.func17 Tryd.ntmps17 ?_
 refine sg fun K k => ?_
 refine oo ?_
 refine AOps.nil (k _ ?_)
 refine AWp.seq fun _ K_1 => ?_
 refine sg fun K k => ?_
 iterate 2 refine oo ?_
 obtain ⟨r1, hx_2, h⟩ := bind_some h
 refine cl (wgS k1 s1 _ hx_2) ?_
 iterate 2 refine oo ?_
 obtain ⟨b1, hc_3, h⟩ := bind_some h
 refine ct 5 [0, 1, 2, 3] [] (fun  t => (27, .d (.bool b1)) :: t) ?_ ?_
 ·rcases bt (!r1) with hg_5 | hg_5
  ·rw [hg_5]
   rw [hg_5, cond_true] at hc_3
   iterate 5 refine oo ?_
   refine AOps.nil ?_
   cases hc_3
   exact sb
  ·rw [hg_5]
   rw [hg_5, cond_false] at hc_3
   iterate 2 refine oo ?_
   obtain ⟨r2, hx_4, hc_3⟩ := bind_some hc_3
   refine cl (wgS k1 t1 _ hx_4) ?_
   iterate 2 refine oo ?_
   refine AOps.nil ?_
   cases hc_3
   exact sb
 refine oo ?_
 refine ct 4 [0, 1, 2, 3] [] (fun  t => (32, .d (.bool (b1 || (decide (20 < (thing1.length : Int)))))) :: t) ?_ ?_
 ·rcases bt b1 with hg_7 | hg_7
  ·rw [hg_7]
   iterate 4 refine oo ?_
   refine AOps.nil ?_
   exact sb
  ·rw [hg_7]
   iterate 4 refine oo ?_
   refine AOps.nil ?_
   exact sb
 refine AOps.nil (k _ ?_)
 refine cd h (fun h => ?_) (fun h => ?_)
 ·refine sg fun K k => ?_
  obtain ⟨r3, hx_9, h⟩ := bind_some h
  refine cl (weF _ hx_9) ?_
  refine oo ?_
  refine AOps.nil (k _ ?_)
  refine AWp.ret ?_
  cases h; exact rt
 ·refine AWp.skip ?_
  refine K_1 _ ?_
  refine sg fun K k => ?_
  iterate 2 refine oo ?_
  obtain ⟨r4, hx_10, h⟩ := bind_some h
  refine cl (wfs k1 s1 _ hx_10) ?_
  iterate 5 refine oo ?_
  refine AOps.nil (k _ ?_)
  refine sg fun K k => ?_
  iterate 2 refine oo ?_
  obtain ⟨r5, hx_11, h⟩ := bind_some h
  refine cl (wfs k1 t1 _ hx_11) ?_
  iterate 5 refine oo ?_
  refine AOps.nil (k _ ?_)
  refine sg fun K k => ?_
  iterate 3 refine oo ?_
  obtain ⟨r6, hx_12, h⟩ := bind_some h
  refine cl (wlJ k1 s1 t1 _ hx_12) ?_
  iterate 5 refine oo ?_
  refine AOps.nil (k _ ?_)
  refine AWp.seq fun _ K_13 => ?_
  refine sg fun K k => ?_
  iterate 3 refine oo ?_
  refine ct 3 [0, 1, 3, 9, 11, 13, 14] [] (fun  t => (58, .d (.bool ((decide (¬r4.2 = 0)) || (decide (¬r5.2 = 0))))) :: t) ?_ ?_
  ·rcases bt (decide (¬r4.2 = 0)) with hg_15 | hg_15
   ·rw [hg_15]
    iterate 3 refine oo ?_
    refine AOps.nil ?_
    exact sb
   ·rw [hg_15]
    iterate 3 refine oo ?_
    refine AOps.nil ?_
    exact sb
  refine AOps.nil (k _ ?_)
  refine cd h (fun h => ?_) (fun h => ?_)
  ·refine sg fun K k => ?_
   iterate 3 refine oo ?_
   refine ct 3 [13] [] (fun  t => (64, .d (.bool ((decide (¬r6.2 = 0)) && (decide (¬r6.2 = 10))))) :: t) ?_ ?_
   ·rcases bt (decide (¬r6.2 = 0)) with hg_18 | hg_18
    ·rw [hg_18]
     iterate 3 refine oo ?_
     refine AOps.nil ?_
     exact sb
    ·rw [hg_18]
     iterate 3 refine oo ?_
     refine AOps.nil ?_
     exact sb
   refine oo ?_
   refine ct 4 [] [] (fun  t => (69, .d (.bool (((decide (¬r6.2 = 0)) && (decide (¬r6.2 = 10))) && (decide ((r6.1.length : Int) = 0))))) :: t) ?_ ?_
   ·rcases bt ((decide (¬r6.2 = 0)) && (decide (¬r6.2 = 10))) with hg_20 | hg_20
    ·rw [hg_20]
     iterate 4 refine oo ?_
     refine AOps.nil ?_
     exact sb
    ·rw [hg_20]
     iterate 4 refine oo ?_
     refine AOps.nil ?_
     exact sb
   refine oo ?_
   obtain ⟨b2, hc_21, h⟩ := bind_some h
   refine ct 2 [] [] (fun  t => (72, .d (.bool b2)) :: t) ?_ ?_
   ·rcases bt (((decide (¬r6.2 = 0)) && (decide (¬r6.2 = 10))) && (decide ((r6.1.length : Int) = 0))) with hg_23 | hg_23
    ·rw [hg_23]
     rw [hg_23, cond_true] at hc_21
     obtain ⟨r7, hx_22, hc_21⟩ := bind_some hc_21
     refine cl (weF _ hx_22) ?_
     refine oo ?_
     refine AOps.nil ?_
     cases hc_21
     exact sb
    ·rw [hg_23]
     rw [hg_23, cond_false] at hc_21
     iterate 2 refine oo ?_
     refine AOps.nil ?_
     cases hc_21
     exact sb
   refine oo ?_
   refine AOps.nil (k _ ?_)
   refine AWp.ret ?_
   cases h; exact rt
  ·refine AWp.skip ?_
   refine K_13 _ ?_
   refine AWp.seq fun _ K_24 => ?_
   refine sg fun K k => ?_
   iterate 2 refine oo ?_
   obtain ⟨r8, hx_25, h⟩ := bind_some h
   refine cl (wjn r4.1 r5.1 _ hx_25) ?_
   iterate 4 refine oo ?_
   refine ct 7 [0, 1, 3, 9] [] (fun  t => (86, .d (.bool ((!(r8 == (decide (r6.2 = 10)))) || ((decide (¬r6.2 = 0)) && (decide (¬r6.2 = 10)))))) :: t) ?_ ?_
   ·rcases bt (!(r8 == (decide (r6.2 = 10)))) with hg_29 | hg_29
    ·rw [hg_29]
     iterate 7 refine oo ?_
     refine AOps.nil ?_
     exact sb
    ·rw [hg_29]
     iterate 3 refine oo ?_
     refine ct 3 [0, 1, 3, 9, 79] [] (fun  t => (85, .d (.bool ((decide (¬r6.2 = 0)) && (decide (¬r6.2 = 10))))) :: t) ?_ ?_
     ·rcases bt (decide (¬r6.2 = 0)) with hg_28 | hg_28
      ·rw [hg_28]
       iterate 3 refine oo ?_
       refine AOps.nil ?_
       exact sb
      ·rw [hg_28]
       iterate 3 refine oo ?_
       refine AOps.nil ?_
       exact sb
     refine oo ?_
     refine AOps.nil ?_
     exact sb
   refine AOps.nil (k _ ?_)
   refine cd h (fun h => ?_) (fun h => ?_)
   ·refine sg fun K k => ?_
    refine oo ?_
    refine AOps.nil (k _ ?_)
    refine AWp.ret ?_
    cases h; exact rt
   ·refine AWp.skip ?_
    refine K_24 _ ?_
    refine sg fun K k => ?_
    iterate 3 refine oo ?_
    obtain ⟨r9, hx_31, h⟩ := bind_some h
    refine cl (wmM k1 s1 thing1 _ hx_31) ?_
    iterate 7 refine oo ?_
    refine AOps.nil (k _ ?_)
    refine sg fun K k => ?_
    iterate 3 refine oo ?_
    obtain ⟨r10, hx_32, h⟩ := bind_some h
    refine cl (wlK k1 r4.1 thing1 _ hx_32) ?_
    iterate 5 refine oo ?_
    refine AOps.nil (k _ ?_)
    refine sg fun K k => ?_
    iterate 4 refine oo ?_
    refine ct 4 [] [] (fun  t => (109, .d (.bool ((decide (r9.1 = r10.1)) && (decide (r9.2.2 = r10.2))))) :: t) ?_ ?_
    ·rcases bt (decide (r9.1 = r10.1)) with hg_34 | hg_34
     ·rw [hg_34]
      iterate 4 refine oo ?_
      refine AOps.nil ?_
      exact sb
     ·rw [hg_34]
      iterate 4 refine oo ?_
      refine AOps.nil ?_
      exact sb
    refine oo ?_
    obtain ⟨b3, hc_35, h⟩ := bind_some h
    refine ct 2 [] [] (fun  t => (112, .d (.bool b3)) :: t) ?_ ?_
    ·rcases bt ((decide (r9.1 = r10.1)) && (decide (r9.2.2 = r10.2))) with hg_37 | hg_37
     ·rw [hg_37]
      rw [hg_37, cond_true] at hc_35
      obtain ⟨r11, hx_36, hc_35⟩ := bind_some hc_35
      refine cl (weF _ hx_36) ?_
      refine oo ?_
      refine AOps.nil ?_
      cases hc_35
      exact sb
     ·rw [hg_37]
      rw [hg_37, cond_false] at hc_35
      iterate 2 refine oo ?_
      refine AOps.nil ?_
      cases hc_35
      exact sb
    refine oo ?_
    refine AOps.nil (k _ ?_)
    refine AWp.ret ?_
    cases h; exact rt
end Go.Pv.Tryd

