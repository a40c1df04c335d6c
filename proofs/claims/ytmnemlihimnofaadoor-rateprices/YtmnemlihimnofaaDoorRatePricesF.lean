/- RatePrices answers true for every input, as its tied card says: under the conditions of the card (Rows, Cards, Tie), no more. Part 6 of 6: by one AI agent and its programs; no person has read it. -/
import Derived.Test.YtmnemlihimnofaaDoorRatePricesA
import Derived.Test.YtmnemlihimnofaaDoorRatePricesB
import Derived.Test.YtmnemlihimnofaaDoorRatePricesC
import Derived.Test.YtmnemlihimnofaaDoorRatePricesD
import Derived.Test.YtmnemlihimnofaaDoorRatePricesE
import Derived.Test.YtmnemlihimnofaaDoorCards
import Derived.Test.YtmnemlihimnofaaDoorTie
import Derived.SevenTiedAt
set_option linter.unusedSimpArgs false
set_option linter.unusedVariables false
set_option linter.all false

namespace Go.Pv.Tryd
open Go.Proofs Go.Pv
theorem m_cocketref01_cmpD_ok (a1 : (List Int)) (b1 : (List Int)) (r : Int) (h : m_cocketref01_cmpD a1 b1 = some r) : PureFn Tryd.prog G 83 [.d (.imm 1 (lenc (PD.int .i64) a1)), .d (.imm 1 (lenc (PD.int .i64) b1))] (.d (.int .i64 r)) := by
 unfold m_cocketref01_cmpD at h
 refine PureFn.intro2 Tryd.func83 (by rfl) (by rw [Tryd.ntmps83]; simp) ?_
 rw [Tryd.ntmps83]
 simp only [argEnv, reduceCtorEq, ↓reduceIte, Nat.reduceAdd, Nat.reduceMul, Nat.reduceLT, Nat.reduceLeDiff, Nat.reduceEqDiff, Nat.reduceBEq, Int.reduceToNat]
 refine AWp.seq fun K_1 hK_1 => AWp.reg ?_
 iterate 1 (refine AOps.consU fun K' hK' => ?_; simp (disch := omega) only [go_sem, ↓reduceIte]; refine hK' _ ?_; clear hK' K')
 refine AOps.nil ?_
 simp only [Post.then]
 refine hK_1 _ ?_
 clear hK_1 K_1
 refine AWp.seq fun K_2 hK_2 => ?_
 refine AWp.seq fun K_3 hK_3 => AWp.reg ?_
 iterate 5 (refine AOps.consU fun K' hK' => ?_; simp (disch := omega) only [go_sem, ↓reduceIte]; refine hK' _ ?_; clear hK' K')
 refine AOps.nil ?_
 simp only [Post.then]
 refine hK_3 _ ?_
 clear hK_3 K_3
 refine AWp.cond (b := (decide ((a1.length : Int) < (b1.length : Int)))) (by rfl) (fun hb_4 => ?_) (fun hb_4 => ?_)
 ·rw [hb_4, cond_true] at h
  refine AWp.seq fun K_5 hK_5 => AWp.reg ?_
  iterate 1 (refine AOps.consU fun K' hK' => ?_; simp (disch := omega) only [go_sem, ↓reduceIte]; refine hK' _ ?_; clear hK' K')
  refine AOps.nil ?_
  simp only [Post.then]
  refine hK_5 _ ?_
  clear hK_5 K_5
  refine AWp.ret ?_
  simp only [Post.then, Post.inBlock, Go.Pv.Fin, Go.Pv.FinG]
  rw [← Option.some.inj h]
  refine ⟨.d (.int .i64 (-1)), ?_, (by first | exact True.intro | rfl), .d (.int .i64 (-1)), ?_, ?_⟩
  ·simp only [go_sem, Tryd.results83, List.length_append, List.length_set, List.length_replicate, ↓reduceIte]
  ·simp only [go_sem, lenc_nil, List.take_length, List.length_append, List.length_set, List.length_replicate, ↓reduceIte]
  ·(first | exact leV_refl _ | (simp only [go_sem, leV, leVL, leD, leDL, lenc_nil, leD_refl, leDL_refl, lstD_le, ↓reduceIte]; done))
 ·rw [hb_4, cond_false] at h
  refine AWp.skip ?_
  simp only [Post.then, Post.inBlock, ↓reduceIte, Nat.reduceEqDiff]
  refine hK_2 _ ?_
  clear hK_2 K_2
  refine AWp.seq fun K_6 hK_6 => ?_
  refine AWp.seq fun K_7 hK_7 => AWp.reg ?_
  iterate 5 (refine AOps.consU fun K' hK' => ?_; simp (disch := omega) only [go_sem, ↓reduceIte]; refine hK' _ ?_; clear hK' K')
  refine AOps.nil ?_
  simp only [Post.then]
  refine hK_7 _ ?_
  clear hK_7 K_7
  refine AWp.cond (b := (decide ((b1.length : Int) < (a1.length : Int)))) (by rfl) (fun hb_8 => ?_) (fun hb_8 => ?_)
  ·rw [hb_8, cond_true] at h
   refine AWp.seq fun K_9 hK_9 => AWp.reg ?_
   iterate 1 (refine AOps.consU fun K' hK' => ?_; simp (disch := omega) only [go_sem, ↓reduceIte]; refine hK' _ ?_; clear hK' K')
   refine AOps.nil ?_
   simp only [Post.then]
   refine hK_9 _ ?_
   clear hK_9 K_9
   refine AWp.ret ?_
   simp only [Post.then, Post.inBlock, Go.Pv.Fin, Go.Pv.FinG]
   rw [← Option.some.inj h]
   refine ⟨.d (.int .i64 1), ?_, (by first | exact True.intro | rfl), .d (.int .i64 1), ?_, ?_⟩
   ·simp only [go_sem, Tryd.results83, List.length_append, List.length_set, List.length_replicate, ↓reduceIte]
   ·simp only [go_sem, lenc_nil, List.take_length, List.length_append, List.length_set, List.length_replicate, ↓reduceIte]
   ·(first | exact leV_refl _ | (simp only [go_sem, leV, leVL, leD, leDL, lenc_nil, leD_refl, leDL_refl, lstD_le, ↓reduceIte]; done))
  ·rw [hb_8, cond_false] at h
   refine AWp.skip ?_
   simp only [Post.then, Post.inBlock, ↓reduceIte, Nat.reduceEqDiff]
   refine hK_6 _ ?_
   clear hK_6 K_6
   obtain ⟨o_10, hj_11, h⟩ := bind_some h
   refine AWp.seqI (fun i_53 : Unit => ⟨[], [], [], none⟩) (fun i_53 => o_10 = (.inl i_53)) ?_ ?_
   ·refine AWp.seq fun K_12 hK_12 => AWp.reg ?_
    iterate 4 (refine AOps.consU fun K' hK' => ?_; simp (disch := omega) only [go_sem, ↓reduceIte]; refine hK' _ ?_; clear hK' K')
    refine AOps.nil ?_
    simp only [Post.then]
    refine hK_12 _ ?_
    clear hK_12 K_12
    refine AWp.block ?_
    obtain ⟨x_17, hl_14, h2_15⟩ := bind_some hj_11
    obtain ⟨n_13, hl_14⟩ := iter_some hl_14
    refine AWp.loopI (fun i_51 : Nat × Int => ⟨[(0, .d (.imm 1 (lenc (PD.int .i64) a1))), (1, .d (.imm 1 (lenc (PD.int .i64) b1))), (5, .d (.int .i64 i_51.2))], [], [], none⟩) (fun i_51 => iterN (m_cocketref01_cmpD_l1 a1 b1) i_51.1 i_51.2 = some x_17) (fun i_51 => i_51.1) (n_13, (IntKind.i64.wrap ((a1.length : Int) - 1))) hl_14 (Sub.mk ⟨rfl, rfl, rfl, trivial⟩ trivial ⟨trivial, trivial, trivial, trivial⟩ trivial ⟨rfl, trivial, rfl⟩) ?_
    clear hl_14
    rintro ⟨n_13, i1⟩ hl_14
    try dsimp only at hl_14
    try dsimp only
    cases n_13 with
    | zero => cases hl_14
    | succ n_13 =>
     rw [iterN_succ] at hl_14
     obtain ⟨ob_18, hb_16, hl_14⟩ := bind_some hl_14
     unfold m_cocketref01_cmpD_l1 at hb_16
     try dsimp only at hb_16
     refine AWp.seq fun K_19 hK_19 => ?_
     refine AWp.seq fun K_20 hK_20 => AWp.reg ?_
     iterate 2 (refine AOps.consU fun K' hK' => ?_; simp (disch := omega) only [go_sem, ↓reduceIte]; refine hK' _ ?_; clear hK' K')
     refine AOps.nil ?_
     simp only [Post.then]
     refine hK_20 _ ?_
     clear hK_20 K_20
     refine AWp.cond (b := (decide (0 ≤ i1))) (by rfl) (fun hb_21 => ?_) (fun hb_21 => ?_)
     ·rw [hb_21, cond_true] at hb_16
      refine AWp.skip ?_
      simp only [Post.then, Post.inBlock, ↓reduceIte, Nat.reduceEqDiff]
      refine hK_19 _ ?_
      clear hK_19 K_19
      refine AWp.seq fun K_22 hK_22 => ?_
      refine AWp.block ?_
      refine AWp.seq fun K_23 hK_23 => ?_
      refine AWp.seq fun K_24 hK_24 => AWp.draw mo [] (by trivial) ?_
      obtain ⟨e1, hx_25, hb_16⟩ := bind_some hb_16
      obtain ⟨f_26, f_27, f_28, f_29⟩ := idx_some hx_25
      obtain ⟨e2, hx_30, hb_16⟩ := bind_some hb_16
      obtain ⟨f_31, f_32, f_33, f_34⟩ := idx_some hx_30
      iterate 9 (refine DOps.consU fun K' hK' => ?_; simp (disch := omega) only [go_sem, f_28, f_33, ↓reduceIte]; refine hK' _ _ ?_; clear hK' K'; simp only [List.nil_append, List.cons_append])
      refine DOps.nil (by kernel_rfl) ?_
      simp only [Post.then]
      refine hK_24 _ ?_
      clear hK_24 K_24
      refine AWp.cond (b := (decide (e1 < e2))) (by rfl) (fun hb_35 => ?_) (fun hb_35 => ?_)
      ·rw [hb_35, cond_true] at hb_16
       refine AWp.seq fun K_36 hK_36 => AWp.reg ?_
       iterate 1 (refine AOps.consU fun K' hK' => ?_; simp (disch := omega) only [go_sem, ↓reduceIte]; refine hK' _ ?_; clear hK' K')
       refine AOps.nil ?_
       simp only [Post.then]
       refine hK_36 _ ?_
       clear hK_36 K_36
       refine AWp.ret ?_
       simp only [Post.then, Post.inBlock, Go.Pv.Fin, Go.Pv.FinG]
       rw [← Option.some.inj hb_16] at hl_14
       try dsimp only at hl_14
       rw [← Option.some.inj hl_14] at h2_15
       try dsimp only at h2_15
       rw [← Option.some.inj h2_15] at h
       try dsimp only at h
       rw [← Option.some.inj h]
       refine ⟨.d (.int .i64 (-1)), ?_, (by first | exact True.intro | rfl), .d (.int .i64 (-1)), ?_, ?_⟩
       ·simp only [go_sem, Tryd.results83, List.length_append, List.length_set, List.length_replicate, ↓reduceIte]
       ·simp only [go_sem, lenc_nil, List.take_length, List.length_append, List.length_set, List.length_replicate, ↓reduceIte]
       ·(first | exact leV_refl _ | (simp only [go_sem, leV, leVL, leD, leDL, lenc_nil, leD_refl, leDL_refl, lstD_le, ↓reduceIte]; done))
      ·rw [hb_35, cond_false] at hb_16
       refine AWp.skip ?_
       simp only [Post.then, Post.inBlock, ↓reduceIte, Nat.reduceEqDiff]
       refine hK_23 _ ?_
       clear hK_23 K_23
       refine AWp.seq fun K_37 hK_37 => AWp.draw mo [] (by trivial) ?_
       obtain ⟨e3, hx_38, hb_16⟩ := bind_some hb_16
       obtain ⟨f_39, f_40, f_41, f_42⟩ := idx_some hx_38
       obtain ⟨e4, hx_43, hb_16⟩ := bind_some hb_16
       obtain ⟨f_44, f_45, f_46, f_47⟩ := idx_some hx_43
       iterate 9 (refine DOps.consU fun K' hK' => ?_; simp (disch := omega) only [go_sem, f_41, f_46, ↓reduceIte]; refine hK' _ _ ?_; clear hK' K'; simp only [List.nil_append, List.cons_append])
       refine DOps.nil (by kernel_rfl) ?_
       simp only [Post.then]
       refine hK_37 _ ?_
       clear hK_37 K_37
       refine AWp.cond (b := (decide (e4 < e3))) (by rfl) (fun hb_48 => ?_) (fun hb_48 => ?_)
       ·rw [hb_48, cond_true] at hb_16
        refine AWp.seq fun K_49 hK_49 => AWp.reg ?_
        iterate 1 (refine AOps.consU fun K' hK' => ?_; simp (disch := omega) only [go_sem, ↓reduceIte]; refine hK' _ ?_; clear hK' K')
        refine AOps.nil ?_
        simp only [Post.then]
        refine hK_49 _ ?_
        clear hK_49 K_49
        refine AWp.ret ?_
        simp only [Post.then, Post.inBlock, Go.Pv.Fin, Go.Pv.FinG]
        rw [← Option.some.inj hb_16] at hl_14
        try dsimp only at hl_14
        rw [← Option.some.inj hl_14] at h2_15
        try dsimp only at h2_15
        rw [← Option.some.inj h2_15] at h
        try dsimp only at h
        rw [← Option.some.inj h]
        refine ⟨.d (.int .i64 1), ?_, (by first | exact True.intro | rfl), .d (.int .i64 1), ?_, ?_⟩
        ·simp only [go_sem, Tryd.results83, List.length_append, List.length_set, List.length_replicate, ↓reduceIte]
        ·simp only [go_sem, lenc_nil, List.take_length, List.length_append, List.length_set, List.length_replicate, ↓reduceIte]
        ·(first | exact leV_refl _ | (simp only [go_sem, leV, leVL, leD, leDL, lenc_nil, leD_refl, leDL_refl, lstD_le, ↓reduceIte]; done))
       ·rw [hb_48, cond_false] at hb_16
        refine AWp.skip ?_
        simp only [Post.then, Post.inBlock, ↓reduceIte, Nat.reduceEqDiff]
        refine hK_22 _ ?_
        clear hK_22 K_22
        refine AWp.reg ?_
        iterate 3 (refine AOps.consU fun K' hK' => ?_; simp (disch := omega) only [go_sem, ↓reduceIte]; refine hK' _ ?_; clear hK' K')
        refine AOps.nil ?_
        simp only [Post.then, Post.inBlock, ↓reduceIte, Nat.reduceEqDiff]
        rw [← Option.some.inj hb_16] at hl_14
        try dsimp only at hl_14
        exact ⟨(n_13, (IntKind.i64.wrap (i1 - 1))), hl_14, Nat.lt_succ_self n_13, (Sub.mk ⟨rfl, rfl, rfl, trivial⟩ trivial ⟨trivial, trivial, trivial, trivial⟩ trivial ⟨rfl, trivial, rfl⟩)⟩
     ·rw [hb_21, cond_false] at hb_16
      refine AWp.exit ?_
      simp only [Post.then, Post.inBlock, ↓reduceIte, Nat.reduceEqDiff]
      rw [← Option.some.inj hb_16] at hl_14
      try dsimp only at hl_14
      rw [← Option.some.inj hl_14] at h2_15
      try dsimp only at h2_15
      exact ⟨(), (Option.some.inj h2_15).symm, (Sub.mk trivial trivial trivial trivial ⟨rfl, trivial, rfl⟩)⟩
   ·rintro _ hx_54
    rw [hx_54] at h
    try dsimp only at h
    try dsimp only
    refine AWp.seq fun K_52 hK_52 => AWp.reg ?_
    iterate 1 (refine AOps.consU fun K' hK' => ?_; simp (disch := omega) only [go_sem, ↓reduceIte]; refine hK' _ ?_; clear hK' K')
    refine AOps.nil ?_
    simp only [Post.then]
    refine hK_52 _ ?_
    clear hK_52 K_52
    refine AWp.ret ?_
    simp only [Post.then, Post.inBlock, Go.Pv.Fin, Go.Pv.FinG]
    rw [← Option.some.inj h]
    refine ⟨.d (.int .i64 0), ?_, (by first | exact True.intro | rfl), .d (.int .i64 0), ?_, ?_⟩
    ·simp only [go_sem, Tryd.results83, List.length_append, List.length_set, List.length_replicate, ↓reduceIte]
    ·simp only [go_sem, lenc_nil, List.take_length, List.length_append, List.length_set, List.length_replicate, ↓reduceIte]
    ·(first | exact leV_refl _ | (simp only [go_sem, leV, leVL, leD, leDL, lenc_nil, leD_refl, leDL_refl, lstD_le, ↓reduceIte]; done))
end Go.Pv.Tryd

namespace Go.Pv.Tryd
open Go.Proofs Go.Pv
theorem m_cocketref01_subD_ok (a1 : (List Int)) (b1 : (List Int)) (r : (List Int)) (h : m_cocketref01_subD a1 b1 = some r) : PureFn Tryd.prog G 101 [.d (.imm 1 (lenc (PD.int .i64) a1)), .d (.imm 1 (lenc (PD.int .i64) b1))] (.d (.imm 1 (lenc (PD.int .i64) r))) := by
 unfold m_cocketref01_subD at h
 refine PureFn.intro2 Tryd.func101 (by rfl) (by rw [Tryd.ntmps101]; simp) ?_
 rw [Tryd.ntmps101]
 simp only [argEnv, reduceCtorEq, ↓reduceIte, Nat.reduceAdd, Nat.reduceMul, Nat.reduceLT, Nat.reduceLeDiff, Nat.reduceEqDiff, Nat.reduceBEq, Int.reduceToNat]
 refine AWp.seq fun K_1 hK_1 => AWp.reg ?_
 iterate 1 (refine AOps.consU fun K' hK' => ?_; simp (disch := omega) only [go_sem, ↓reduceIte]; refine hK' _ ?_; clear hK' K')
 refine AOps.nil ?_
 simp only [Post.then]
 refine hK_1 _ ?_
 clear hK_1 K_1
 refine AWp.seq fun K_2 hK_2 => AWp.reg ?_
 iterate 1 (refine AOps.consU fun K' hK' => ?_; simp (disch := omega) only [go_sem, ↓reduceIte]; refine hK' _ ?_; clear hK' K')
 refine AOps.nil ?_
 simp only [Post.then]
 refine hK_2 _ ?_
 clear hK_2 K_2
 refine AWp.sub (Sub.void 5 3 1 1000 (by rfl) (by rfl) (by decide) (by decide)) ?_
 simp only [eput, hput, reduceCtorEq, ↓reduceIte, Nat.reduceAdd, Nat.reduceMul, Nat.reduceLT, Nat.reduceLeDiff, Nat.reduceEqDiff, Nat.reduceBEq, Int.reduceToNat]
 refine AWp.seq fun K_3 hK_3 => AWp.reg ?_
 iterate 1 (refine AOps.consU fun K' hK' => ?_; simp (disch := omega) only [go_sem, ↓reduceIte]; refine hK' _ ?_; clear hK' K')
 refine AOps.nil ?_
 simp only [Post.then]
 refine hK_3 _ ?_
 clear hK_3 K_3
 obtain ⟨o_4, hj_5, h⟩ := bind_some h
 refine AWp.seqI (fun i_50 : (List Int) => ⟨[(5, .slc 1000 0 i_50.length)], [(1000, ⟨3, 1, dl (lenc (PD.int .i64) i_50)⟩)], [], none⟩) (fun i_50 => o_4 = i_50) ?_ ?_
 ·refine AWp.seq fun K_6 hK_6 => AWp.reg ?_
  iterate 1 (refine AOps.consU fun K' hK' => ?_; simp (disch := omega) only [go_sem, ↓reduceIte]; refine hK' _ ?_; clear hK' K')
  refine AOps.nil ?_
  simp only [Post.then]
  refine hK_6 _ ?_
  clear hK_6 K_6
  refine AWp.block ?_
  obtain ⟨x_11, hl_8, h2_9⟩ := bind_some hj_5
  obtain ⟨n_7, hl_8⟩ := iter_some hl_8
  refine AWp.loopI (fun i_47 : Nat × (Int × Int × (List Int)) => ⟨[(0, .d (.imm 1 (lenc (PD.int .i64) a1))), (1, .d (.imm 1 (lenc (PD.int .i64) b1))), (5, .slc 1000 0 i_47.2.2.2.length), (6, .d (.int .i64 i_47.2.1)), (7, .d (.int .i64 i_47.2.2.1))], [(1000, ⟨3, 1, dl (lenc (PD.int .i64) i_47.2.2.2)⟩)], [], none⟩) (fun i_47 => iterN (m_cocketref01_subD_l1 a1 b1) i_47.1 i_47.2 = some x_11) (fun i_47 => i_47.1) (n_7, (0, 0, [])) hl_8 (Sub.mk ⟨rfl, rfl, slcl (by simp only [List.length_append, List.length_set, List.length_replicate, List.length_cons, List.length_nil, Nat.zero_add]), rfl, rfl, trivial⟩ ⟨rfl, trivial⟩ ⟨trivial, trivial, rfl, trivial, trivial, trivial⟩ ⟨row_refs _ _, trivial⟩ ⟨rfl, trivial, rfl⟩) ?_
  clear hl_8
  rintro ⟨n_7, borrow1, i1, L2⟩ hl_8
  try dsimp only at hl_8
  try dsimp only
  cases n_7 with
  | zero => cases hl_8
  | succ n_7 =>
   rw [iterN_succ] at hl_8
   obtain ⟨ob_12, hb_10, hl_8⟩ := bind_some hl_8
   unfold m_cocketref01_subD_l1 at hb_10
   try dsimp only at hb_10
   refine AWp.seq fun K_13 hK_13 => ?_
   refine AWp.seq fun K_14 hK_14 => AWp.reg ?_
   iterate 4 (refine AOps.consU fun K' hK' => ?_; simp (disch := omega) only [go_sem, ↓reduceIte]; refine hK' _ ?_; clear hK' K')
   refine AOps.nil ?_
   simp only [Post.then]
   refine hK_14 _ ?_
   clear hK_14 K_14
   refine AWp.cond (b := (decide (i1 < (a1.length : Int)))) (by rfl) (fun hb_15 => ?_) (fun hb_15 => ?_)
   ·rw [hb_15, cond_true] at hb_10
    refine AWp.skip ?_
    simp only [Post.then, Post.inBlock, ↓reduceIte, Nat.reduceEqDiff]
    refine hK_13 _ ?_
    clear hK_13 K_13
    refine AWp.seq fun K_16 hK_16 => ?_
    refine AWp.block ?_
    refine AWp.seq fun K_17 hK_17 => AWp.reg ?_
    obtain ⟨e1, hx_18, hb_10⟩ := bind_some hb_10
    obtain ⟨f_19, f_20, f_21, f_22⟩ := idx_some hx_18
    iterate 7 (refine AOps.consU fun K' hK' => ?_; simp (disch := omega) only [go_sem, f_21, ↓reduceIte]; refine hK' _ ?_; clear hK' K')
    refine AOps.nil ?_
    simp only [Post.then]
    refine hK_17 _ ?_
    clear hK_17 K_17
    obtain ⟨o_23, hj_24, hb_10⟩ := bind_some hb_10
    refine AWp.seqI (fun i_45 : Int => ⟨[(0, .d (.imm 1 (lenc (PD.int .i64) a1))), (1, .d (.imm 1 (lenc (PD.int .i64) b1))), (5, .slc 1000 0 L2.length), (7, .d (.int .i64 i1)), (8, .d (.int .i64 i_45))], [(1000, ⟨3, 1, dl (lenc (PD.int .i64) L2)⟩)], [], none⟩) (fun i_45 => o_23 = i_45) ?_ ?_
    ·refine AWp.seq fun K_25 hK_25 => AWp.reg ?_
     iterate 4 (refine AOps.consU fun K' hK' => ?_; simp (disch := omega) only [go_sem, ↓reduceIte]; refine hK' _ ?_; clear hK' K')
     refine AOps.nil ?_
     simp only [Post.then]
     refine hK_25 _ ?_
     clear hK_25 K_25
     refine AWp.cond (b := (decide (i1 < (b1.length : Int)))) (by rfl) (fun hb_26 => ?_) (fun hb_26 => ?_)
     ·rw [hb_26, cond_true] at hj_24
      refine AWp.reg ?_
      obtain ⟨e2, hx_28, hj_24⟩ := bind_some hj_24
      obtain ⟨f_29, f_30, f_31, f_32⟩ := idx_some hx_28
      iterate 7 (refine AOps.consU fun K' hK' => ?_; simp (disch := omega) only [go_sem, f_31, ↓reduceIte]; refine hK' _ ?_; clear hK' K')
      refine AOps.nil ?_
      simp only [Post.then, Post.inBlock, ↓reduceIte, Nat.reduceEqDiff]
      exact ⟨(IntKind.i64.wrap ((IntKind.i64.wrap (e1 - borrow1)) - e2)), (Option.some.inj hj_24).symm, (Sub.mk ⟨rfl, rfl, rfl, rfl, rfl, trivial⟩ ⟨rfl, trivial⟩ ⟨trivial, trivial, rfl, trivial, trivial, trivial⟩ ⟨row_refs _ _, trivial⟩ ⟨rfl, trivial, rfl⟩)⟩
     ·rw [hb_26, cond_false] at hj_24
      refine AWp.skip ?_
      simp only [Post.then, Post.inBlock, ↓reduceIte, Nat.reduceEqDiff]
      exact ⟨(IntKind.i64.wrap (e1 - borrow1)), (Option.some.inj hj_24).symm, (Sub.mk ⟨rfl, rfl, rfl, rfl, rfl, trivial⟩ ⟨rfl, trivial⟩ ⟨trivial, trivial, rfl, trivial, trivial, trivial⟩ ⟨row_refs _ _, trivial⟩ ⟨rfl, trivial, rfl⟩)⟩
    ·rintro s1 hx_46
     rw [hx_46] at hb_10
     try dsimp only at hb_10
     try dsimp only
     refine AWp.seq fun K_33 hK_33 => AWp.reg ?_
     iterate 1 (refine AOps.consU fun K' hK' => ?_; simp (disch := omega) only [go_sem, ↓reduceIte]; refine hK' _ ?_; clear hK' K')
     refine AOps.nil ?_
     simp only [Post.then]
     refine hK_33 _ ?_
     clear hK_33 K_33
     obtain ⟨o_34, hj_35, hb_10⟩ := bind_some hb_10
     refine AWp.seqI (fun i_43 : (Int × Int) => ⟨[(0, .d (.imm 1 (lenc (PD.int .i64) a1))), (1, .d (.imm 1 (lenc (PD.int .i64) b1))), (5, .slc 1000 0 L2.length), (6, .d (.int .i64 i_43.1)), (7, .d (.int .i64 i1)), (8, .d (.int .i64 i_43.2))], [(1000, ⟨3, 1, dl (lenc (PD.int .i64) L2)⟩)], [], none⟩) (fun i_43 => o_34 = i_43) ?_ ?_
     ·refine AWp.seq fun K_36 hK_36 => AWp.reg ?_
      iterate 2 (refine AOps.consU fun K' hK' => ?_; simp (disch := omega) only [go_sem, ↓reduceIte]; refine hK' _ ?_; clear hK' K')
      refine AOps.nil ?_
      simp only [Post.then]
      refine hK_36 _ ?_
      clear hK_36 K_36
      refine AWp.cond (b := (decide (s1 < 0))) (by rfl) (fun hb_37 => ?_) (fun hb_37 => ?_)
      ·rw [hb_37, cond_true] at hj_35
       refine AWp.seq fun K_38 hK_38 => AWp.reg ?_
       iterate 3 (refine AOps.consU fun K' hK' => ?_; simp (disch := omega) only [go_sem, ↓reduceIte]; refine hK' _ ?_; clear hK' K')
       refine AOps.nil ?_
       simp only [Post.then]
       refine hK_38 _ ?_
       clear hK_38 K_38
       refine AWp.reg ?_
       iterate 1 (refine AOps.consU fun K' hK' => ?_; simp (disch := omega) only [go_sem, ↓reduceIte]; refine hK' _ ?_; clear hK' K')
       refine AOps.nil ?_
       simp only [Post.then, Post.inBlock, ↓reduceIte, Nat.reduceEqDiff]
       exact ⟨(1, (IntKind.i64.wrap (s1 + 10000))), (Option.some.inj hj_35).symm, (Sub.mk ⟨rfl, rfl, rfl, rfl, rfl, rfl, trivial⟩ ⟨rfl, trivial⟩ ⟨trivial, trivial, rfl, trivial, trivial, trivial, trivial⟩ ⟨row_refs _ _, trivial⟩ ⟨rfl, trivial, rfl⟩)⟩
      ·rw [hb_37, cond_false] at hj_35
       refine AWp.skip ?_
       simp only [Post.then, Post.inBlock, ↓reduceIte, Nat.reduceEqDiff]
       exact ⟨(0, s1), (Option.some.inj hj_35).symm, (Sub.mk ⟨rfl, rfl, rfl, rfl, rfl, rfl, trivial⟩ ⟨rfl, trivial⟩ ⟨trivial, trivial, rfl, trivial, trivial, trivial, trivial⟩ ⟨row_refs _ _, trivial⟩ ⟨rfl, trivial, rfl⟩)⟩
     ·rintro ⟨borrow2, s2⟩ hx_44
      rw [hx_44] at hb_10
      try dsimp only at hb_10
      try dsimp only
      refine AWp.reg ?_
      iterate 2 (refine AOps.consU fun K' hK' => ?_; simp (disch := omega) only [go_sem, ↓reduceIte]; refine hK' _ ?_; clear hK' K')
      refine AOps.consL fun K' hK' => ?_; simp (disch := omega) only [go_sem, ↓reduceIte]; refine hK' _ ?_; clear hK' K'
      obtain ⟨hg_41, hb_10⟩ := guardO_some hb_10
      iterate 2 (refine AOps.consU fun K' hK' => ?_; simp (disch := omega) only [go_sem, ↓reduceIte]; refine hK' _ ?_; clear hK' K')
      refine AOps.nil ?_
      simp only [Post.then, Post.inBlock, ↓reduceIte, Nat.reduceEqDiff]
      refine hK_16 _ ?_
      clear hK_16 K_16
      refine AWp.reg ?_
      iterate 3 (refine AOps.consU fun K' hK' => ?_; simp (disch := omega) only [go_sem, ↓reduceIte]; refine hK' _ ?_; clear hK' K')
      refine AOps.nil ?_
      simp only [Post.then, Post.inBlock, ↓reduceIte, Nat.reduceEqDiff]
      rw [← Option.some.inj hb_10] at hl_8
      try dsimp only at hl_8
      exact ⟨(n_7, (borrow2, (IntKind.i64.wrap (i1 + 1)), (L2 ++ [s2]))), hl_8, Nat.lt_succ_self n_7, (Sub.mk ⟨rfl, rfl, slcl (by simp only [List.length_append, List.length_set, List.length_replicate, List.length_cons, List.length_nil, Nat.zero_add]), rfl, rfl, trivial⟩ ⟨rfl, trivial⟩ ⟨trivial, trivial, rfl, trivial, trivial, trivial⟩ ⟨row_refs _ _, trivial⟩ ⟨rfl, trivial, rfl⟩)⟩
   ·rw [hb_15, cond_false] at hb_10
    refine AWp.exit ?_
    simp only [Post.then, Post.inBlock, ↓reduceIte, Nat.reduceEqDiff]
    rw [← Option.some.inj hb_10] at hl_8
    try dsimp only at hl_8
    rw [← Option.some.inj hl_8] at h2_9
    try dsimp only at h2_9
    exact ⟨L2, (Option.some.inj h2_9).symm, (Sub.mk ⟨slcl (by simp only [List.length_append, List.length_set, List.length_replicate, List.length_cons, List.length_nil, Nat.zero_add]), trivial⟩ ⟨rfl, trivial⟩ ⟨rfl, trivial⟩ ⟨row_refs _ _, trivial⟩ ⟨rfl, trivial, rfl⟩)⟩
 ·rintro L1 hx_51
  rw [hx_51] at h
  try dsimp only at h
  try dsimp only
  refine AWp.seq fun K_48 hK_48 => AWp.reg ?_
  iterate 1 (refine AOps.consU fun K' hK' => ?_; simp (disch := omega) only [go_sem, ↓reduceIte]; refine hK' _ ?_; clear hK' K')
  refine AOps.sub (τ := ⟨[(39, .d (.imm 1 (lenc (PD.int .i64) L1)))], [], [], none⟩) (Sub.cv trivial ⟨.inr ⟨_, frz_row rfl (rfl), leV_refl _, rows_slc rfl⟩, trivial⟩ trivial ⟨rfl, trivial, rfl⟩) ?_
  obtain ⟨r1, hx_49, h⟩ := bind_some h
  refine AOps.consU fun K' hK' => ?_; simp (disch := omega) only [go_sem, ↓reduceIte]; refine OpT.call (by rfl) (by rfl) (by kernel_rfl) (m_cocketref01_trim_ok L1 _ hx_49) (by exact ⟨rfl, trivial⟩) (by simp only [go_sem, ↓reduceIte]) ?_ (by simp only [go_sem]); simp only [go_sem, ↓reduceIte]; refine hK' _ ?_; clear hK' K'
  iterate 1 (refine AOps.consU fun K' hK' => ?_; simp (disch := omega) only [go_sem, ↓reduceIte]; refine hK' _ ?_; clear hK' K')
  refine AOps.nil ?_
  simp only [Post.then]
  refine hK_48 _ ?_
  clear hK_48 K_48
  refine AWp.ret ?_
  simp only [Post.then, Post.inBlock, Go.Pv.Fin, Go.Pv.FinG]
  rw [← Option.some.inj h]
  refine ⟨.d (.imm 1 (lenc (PD.int .i64) r1)), ?_, (by first | exact True.intro | rfl), .d (.imm 1 (lenc (PD.int .i64) r1)), ?_, ?_⟩
  ·simp only [go_sem, Tryd.results101, List.length_append, List.length_set, List.length_replicate, ↓reduceIte]
  ·simp only [go_sem, lenc_nil, List.take_length, List.length_append, List.length_set, List.length_replicate, ↓reduceIte]
  ·(first | exact leV_refl _ | (simp only [go_sem, leV, leVL, leD, leDL, lenc_nil, leD_refl, leDL_refl, lstD_le, ↓reduceIte]; done))
end Go.Pv.Tryd

namespace Go.Pv.Tryd
open Go.Proofs Go.Pv
theorem m_cocketref01_divD_ok (a1 : (List Int)) (b1 : (List Int)) (r : ((List Int) × (List Int))) (h : m_cocketref01_divD a1 b1 = some r) : PureFn Tryd.prog G 99 [.d (.imm 1 (lenc (PD.int .i64) a1)), .d (.imm 1 (lenc (PD.int .i64) b1))] (.tuple [.d (.imm 1 (lenc (PD.int .i64) r.1)), .d (.imm 1 (lenc (PD.int .i64) r.2))]) := by
 unfold m_cocketref01_divD at h
 refine PureFn.intro2 Tryd.func99 (by rfl) (by rw [Tryd.ntmps99]; simp) ?_
 rw [Tryd.ntmps99]
 simp only [argEnv, reduceCtorEq, ↓reduceIte, Nat.reduceAdd, Nat.reduceMul, Nat.reduceLT, Nat.reduceLeDiff, Nat.reduceEqDiff, Nat.reduceBEq, Int.reduceToNat]
 refine AWp.seq fun K_1 hK_1 => AWp.reg ?_
 iterate 2 (refine AOps.consU fun K' hK' => ?_; simp (disch := omega) only [go_sem, ↓reduceIte]; refine hK' _ ?_; clear hK' K')
 refine AOps.nil ?_
 simp only [Post.then]
 refine hK_1 _ ?_
 clear hK_1 K_1
 refine AWp.seq fun K_2 hK_2 => ?_
 refine AWp.seq fun K_3 hK_3 => AWp.reg ?_
 iterate 3 (refine AOps.consU fun K' hK' => ?_; simp (disch := omega) only [go_sem, ↓reduceIte]; refine hK' _ ?_; clear hK' K')
 refine AOps.nil ?_
 simp only [Post.then]
 refine hK_3 _ ?_
 clear hK_3 K_3
 refine AWp.cond (b := (decide ((b1.length : Int) = 0))) (by rfl) (fun hb_4 => ?_) (fun hb_4 => ?_)
 ·rw [hb_4, cond_true] at h
  refine AWp.seq fun K_5 hK_5 => AWp.reg ?_
  iterate 2 (refine AOps.consU fun K' hK' => ?_; simp (disch := omega) only [go_sem, ↓reduceIte]; refine hK' _ ?_; clear hK' K')
  refine AOps.nil ?_
  simp only [Post.then]
  refine hK_5 _ ?_
  clear hK_5 K_5
  refine AWp.ret ?_
  simp only [Post.then, Post.inBlock, Go.Pv.Fin, Go.Pv.FinG]
  rw [← Option.some.inj h]
  refine ⟨.tuple [.d .nilslice, .d .nilslice], ?_, (by first | exact True.intro | rfl), .tuple [.d .nilslice, .d .nilslice], ?_, ?_⟩
  ·simp only [go_sem, Tryd.results99, List.length_append, List.length_set, List.length_replicate, ↓reduceIte]
  ·simp only [go_sem, lenc_nil, List.take_length, List.length_append, List.length_set, List.length_replicate, ↓reduceIte]
  ·(first | exact leV_refl _ | (simp only [go_sem, leV, leVL, leD, leDL, lenc_nil, leD_refl, leDL_refl, lstD_le, ↓reduceIte]; done))
 ·rw [hb_4, cond_false] at h
  refine AWp.skip ?_
  simp only [Post.then, Post.inBlock, ↓reduceIte, Nat.reduceEqDiff]
  refine hK_2 _ ?_
  clear hK_2 K_2
  refine AWp.seq fun K_6 hK_6 => AWp.reg ?_
  obtain ⟨hg_7, h⟩ := guardO_some h
  iterate 4 (refine AOps.consU fun K' hK' => ?_; simp (disch := omega) only [go_sem, ↓reduceIte]; refine hK' _ ?_; clear hK' K')
  refine AOps.nil ?_
  simp only [Post.then]
  refine hK_6 _ ?_
  clear hK_6 K_6
  refine AWp.seq fun K_8 hK_8 => AWp.reg ?_
  iterate 1 (refine AOps.consU fun K' hK' => ?_; simp (disch := omega) only [go_sem, ↓reduceIte]; refine hK' _ ?_; clear hK' K')
  refine AOps.nil ?_
  simp only [Post.then]
  refine hK_8 _ ?_
  clear hK_8 K_8
  obtain ⟨o_9, hj_10, h⟩ := bind_some h
  refine AWp.seqI (fun i_72 : ((List Int) × (List Int)) => ⟨[(6, .slc 1000 0 i_72.2.length), (7, .d (.imm 1 (lenc (PD.int .i64) i_72.1)))], [(1000, ⟨3, 1, dl (lenc (PD.int .i64) i_72.2)⟩)], [], none⟩) (fun i_72 => o_9 = i_72) ?_ ?_
  ·refine AWp.seq fun K_11 hK_11 => AWp.reg ?_
   iterate 4 (refine AOps.consU fun K' hK' => ?_; simp (disch := omega) only [go_sem, ↓reduceIte]; refine hK' _ ?_; clear hK' K')
   refine AOps.nil ?_
   simp only [Post.then]
   refine hK_11 _ ?_
   clear hK_11 K_11
   refine AWp.block ?_
   obtain ⟨x_16, hl_13, h2_14⟩ := bind_some hj_10
   obtain ⟨n_12, hl_13⟩ := iter_some hl_13
   refine AWp.loopI (fun i_69 : Nat × ((List Int) × Int × (List Int)) => ⟨[(0, .d (.imm 1 (lenc (PD.int .i64) a1))), (1, .d (.imm 1 (lenc (PD.int .i64) b1))), (6, .slc 1000 0 i_69.2.2.2.length), (7, .d (.imm 1 (lenc (PD.int .i64) i_69.2.1))), (8, .d (.int .i64 i_69.2.2.1))], [(1000, ⟨3, 1, dl (lenc (PD.int .i64) i_69.2.2.2)⟩)], [], none⟩) (fun i_69 => iterN (m_cocketref01_divD_l1 a1 b1) i_69.1 i_69.2 = some x_16) (fun i_69 => i_69.1) (n_12, ([], (IntKind.i64.wrap ((a1.length : Int) - 1)), (List.replicate ((a1.length : Int)).toNat (0 : Int)))) hl_13 (Sub.cv ⟨rfl, trivial⟩ ⟨.inl ⟨leV_refl _, trivial⟩, .inl ⟨leV_refl _, trivial⟩, .inl ⟨slcle (by simp only [List.length_append, List.length_set, List.length_replicate, List.length_cons, List.length_nil, Nat.zero_add]), rfl⟩, .inl ⟨le_nil _ _, trivial⟩, .inl ⟨leV_refl _, trivial⟩, trivial⟩ ⟨row_refs _ _, trivial⟩ ⟨rfl, trivial, rfl⟩) ?_
   clear hl_13
   rintro ⟨n_12, rem2, i1, L2⟩ hl_13
   try dsimp only at hl_13
   try dsimp only
   cases n_12 with
   | zero => cases hl_13
   | succ n_12 =>
    rw [iterN_succ] at hl_13
    obtain ⟨ob_17, hb_15, hl_13⟩ := bind_some hl_13
    unfold m_cocketref01_divD_l1 at hb_15
    try dsimp only at hb_15
    refine AWp.seq fun K_18 hK_18 => ?_
    refine AWp.seq fun K_19 hK_19 => AWp.reg ?_
    iterate 2 (refine AOps.consU fun K' hK' => ?_; simp (disch := omega) only [go_sem, ↓reduceIte]; refine hK' _ ?_; clear hK' K')
    refine AOps.nil ?_
    simp only [Post.then]
    refine hK_19 _ ?_
    clear hK_19 K_19
    refine AWp.cond (b := (decide (0 ≤ i1))) (by rfl) (fun hb_20 => ?_) (fun hb_20 => ?_)
    ·rw [hb_20, cond_true] at hb_15
     refine AWp.skip ?_
     simp only [Post.then, Post.inBlock, ↓reduceIte, Nat.reduceEqDiff]
     refine hK_18 _ ?_
     clear hK_18 K_18
     obtain ⟨o_21, hj_22, hb_15⟩ := bind_some hb_15
     refine AWp.seqI (fun i_67 : ((List Int) × (List Int)) => ⟨[(0, .d (.imm 1 (lenc (PD.int .i64) a1))), (1, .d (.imm 1 (lenc (PD.int .i64) b1))), (6, .slc 1000 0 i_67.2.length), (7, .d (.imm 1 (lenc (PD.int .i64) i_67.1))), (8, .d (.int .i64 i1))], [(1000, ⟨3, 1, dl (lenc (PD.int .i64) i_67.2)⟩)], [], none⟩) (fun i_67 => o_21 = i_67) ?_ ?_
     ·refine AWp.block ?_
      refine AWp.seq fun K_23 hK_23 => AWp.reg ?_
      obtain ⟨e1, hx_24, hj_22⟩ := bind_some hj_22
      obtain ⟨f_25, f_26, f_27, f_28⟩ := idx_some hx_24
      iterate 6 (refine AOps.consU fun K' hK' => ?_; simp (disch := omega) only [go_sem, f_27, ↓reduceIte]; refine hK' _ ?_; clear hK' K')
      refine AOps.nil ?_
      simp only [Post.then]
      refine hK_23 _ ?_
      clear hK_23 K_23
      refine AWp.seq fun K_29 hK_29 => AWp.reg ?_
      obtain ⟨hg_30, hj_22⟩ := guardO_some hj_22
      iterate 3 (refine AOps.consU fun K' hK' => ?_; simp (disch := omega) only [go_sem, ↓reduceIte]; refine hK' _ ?_; clear hK' K')
      refine AOps.sub (τ := ⟨[(0, .d (.imm 1 (lenc (PD.int .i64) a1))), (1, .d (.imm 1 (lenc (PD.int .i64) b1))), (6, .slc 1000 0 L2.length), (7, .d (.imm 1 (lenc (PD.int .i64) rem2))), (8, .d (.int .i64 i1)), (34, .d (.imm 1 (lenc (PD.int .i64) ([e1] ++ rem2))))], [(1000, ⟨3, 1, dl (lenc (PD.int .i64) L2)⟩)], [], none⟩) (Sub.cv ⟨rfl, trivial⟩ ⟨.inl ⟨leV_refl _, trivial⟩, .inl ⟨leV_refl _, trivial⟩, .inl ⟨leV_refl _, rfl⟩, .inl ⟨leV_refl _, trivial⟩, .inl ⟨leV_refl _, trivial⟩, .inr ⟨_, frz_row rfl (by simp only [List.length_append, List.length_set, List.length_replicate, List.length_cons, List.length_nil, Nat.zero_add]), leV_refl _, rows_slc rfl⟩, trivial⟩ ⟨row_refs _ _, trivial⟩ ⟨rfl, trivial, rfl⟩) ?_
      obtain ⟨r1, hx_31, hj_22⟩ := bind_some hj_22
      refine AOps.consU fun K' hK' => ?_; simp (disch := omega) only [go_sem, ↓reduceIte]; refine OpT.call (by rfl) (by rfl) (by kernel_rfl) (m_cocketref01_trim_ok ([e1] ++ rem2) _ hx_31) (by exact ⟨rfl, trivial⟩) (by simp only [go_sem, ↓reduceIte]) ?_ (by simp only [go_sem]); simp only [go_sem, ↓reduceIte]; refine hK' _ ?_; clear hK' K'
      iterate 1 (refine AOps.consU fun K' hK' => ?_; simp (disch := omega) only [go_sem, ↓reduceIte]; refine hK' _ ?_; clear hK' K')
      refine AOps.nil ?_
      simp only [Post.then]
      refine hK_29 _ ?_
      clear hK_29 K_29
      refine AWp.seq fun K_32 hK_32 => AWp.reg ?_
      iterate 2 (refine AOps.consU fun K' hK' => ?_; simp (disch := omega) only [go_sem, ↓reduceIte]; refine hK' _ ?_; clear hK' K')
      refine AOps.nil ?_
      simp only [Post.then]
      refine hK_32 _ ?_
      clear hK_32 K_32
      obtain ⟨o_33, hj_34, hj_22⟩ := bind_some hj_22
      refine AWp.seqI (fun i_64 : Int => ⟨[(0, .d (.imm 1 (lenc (PD.int .i64) a1))), (1, .d (.imm 1 (lenc (PD.int .i64) b1))), (6, .slc 1000 0 L2.length), (7, .d (.imm 1 (lenc (PD.int .i64) r1))), (8, .d (.int .i64 i1)), (10, .d (.int .i64 i_64))], [(1000, ⟨3, 1, dl (lenc (PD.int .i64) L2)⟩)], [], none⟩) (fun i_64 => o_33 = i_64) ?_ ?_
      ·refine AWp.block ?_
       obtain ⟨x_39, hl_36, h2_37⟩ := bind_some hj_34
       obtain ⟨n_35, hl_36⟩ := iter_some hl_36
       refine AWp.loopI (fun i_53 : Nat × (Int × Int) => ⟨[(0, .d (.imm 1 (lenc (PD.int .i64) a1))), (1, .d (.imm 1 (lenc (PD.int .i64) b1))), (6, .slc 1000 0 L2.length), (7, .d (.imm 1 (lenc (PD.int .i64) r1))), (8, .d (.int .i64 i1)), (10, .d (.int .i64 i_53.2.1)), (11, .d (.int .i64 i_53.2.2))], [(1000, ⟨3, 1, dl (lenc (PD.int .i64) L2)⟩)], [], none⟩) (fun i_53 => iterN (m_cocketref01_divD_l2 b1 r1) i_53.1 i_53.2 = some x_39) (fun i_53 => i_53.1) (n_35, (0, 9999)) hl_36 (Sub.mk ⟨rfl, rfl, rfl, rfl, rfl, rfl, rfl, trivial⟩ ⟨rfl, trivial⟩ ⟨trivial, trivial, rfl, trivial, trivial, trivial, trivial, trivial⟩ ⟨row_refs _ _, trivial⟩ ⟨rfl, trivial, rfl⟩) ?_
       clear hl_36
       rintro ⟨n_35, lo2, hi1⟩ hl_36
       try dsimp only at hl_36
       try dsimp only
       cases n_35 with
       | zero => cases hl_36
       | succ n_35 =>
        rw [iterN_succ] at hl_36
        obtain ⟨ob_40, hb_38, hl_36⟩ := bind_some hl_36
        unfold m_cocketref01_divD_l2 at hb_38
        try dsimp only at hb_38
        refine AWp.seq fun K_41 hK_41 => ?_
        refine AWp.seq fun K_42 hK_42 => AWp.reg ?_
        iterate 3 (refine AOps.consU fun K' hK' => ?_; simp (disch := omega) only [go_sem, ↓reduceIte]; refine hK' _ ?_; clear hK' K')
        refine AOps.nil ?_
        simp only [Post.then]
        refine hK_42 _ ?_
        clear hK_42 K_42
        refine AWp.cond (b := (decide (lo2 < hi1))) (by rfl) (fun hb_43 => ?_) (fun hb_43 => ?_)
        ·rw [hb_43, cond_true] at hb_38
         refine AWp.skip ?_
         simp only [Post.then, Post.inBlock, ↓reduceIte, Nat.reduceEqDiff]
         refine hK_41 _ ?_
         clear hK_41 K_41
         refine AWp.block ?_
         refine AWp.seq fun K_44 hK_44 => AWp.reg ?_
         iterate 6 (refine AOps.consU fun K' hK' => ?_; simp (disch := omega) only [go_sem, ↓reduceIte]; refine hK' _ ?_; clear hK' K')
         refine AOps.nil ?_
         simp only [Post.then]
         refine hK_44 _ ?_
         clear hK_44 K_44
         refine AWp.seq fun K_45 hK_45 => AWp.reg ?_
         iterate 2 (refine AOps.consU fun K' hK' => ?_; simp (disch := omega) only [go_sem, ↓reduceIte]; refine hK' _ ?_; clear hK' K')
         refine AOps.consL fun K' hK' => ?_; simp (disch := omega) only [go_sem, ↓reduceIte]; refine hK' _ ?_; clear hK' K'
         obtain ⟨r2, hx_46, hb_38⟩ := bind_some hb_38
         refine AOps.consU fun K' hK' => ?_; simp (disch := omega) only [go_sem, ↓reduceIte]; refine OpT.call (by rfl) (by rfl) (by kernel_rfl) (m_cocketref01_trim_ok [(IntKind.i64.wrap ((IntKind.i64.wrap ((IntKind.i64.wrap (lo2 + hi1)) + 1)).tdiv 2))] _ hx_46) (by exact ⟨rfl, trivial⟩) (by simp only [go_sem, ↓reduceIte]) ?_ (by simp only [go_sem]); simp only [go_sem, ↓reduceIte]; refine hK' _ ?_; clear hK' K'
         obtain ⟨r3, hx_47, hb_38⟩ := bind_some hb_38
         refine AOps.consU fun K' hK' => ?_; simp (disch := omega) only [go_sem, ↓reduceIte]; refine OpT.call (by rfl) (by rfl) (by kernel_rfl) (m_cocketref01_mulD_ok b1 r2 _ hx_47) (by exact ⟨rfl, rfl, trivial⟩) (by simp only [go_sem, ↓reduceIte]) ?_ (by simp only [go_sem]); simp only [go_sem, ↓reduceIte]; refine hK' _ ?_; clear hK' K'
         iterate 1 (refine AOps.consU fun K' hK' => ?_; simp (disch := omega) only [go_sem, ↓reduceIte]; refine hK' _ ?_; clear hK' K')
         refine AOps.nil ?_
         simp only [Post.then]
         refine hK_45 _ ?_
         clear hK_45 K_45
         refine AWp.seq fun K_48 hK_48 => AWp.reg ?_
         iterate 2 (refine AOps.consU fun K' hK' => ?_; simp (disch := omega) only [go_sem, ↓reduceIte]; refine hK' _ ?_; clear hK' K')
         obtain ⟨r4, hx_49, hb_38⟩ := bind_some hb_38
         refine AOps.consU fun K' hK' => ?_; simp (disch := omega) only [go_sem, ↓reduceIte]; refine OpT.call (by rfl) (by rfl) (by kernel_rfl) (m_cocketref01_cmpD_ok r3 r1 _ hx_49) (by exact ⟨rfl, rfl, trivial⟩) (by simp only [go_sem, ↓reduceIte]) ?_ (by simp only [go_sem]); simp only [go_sem, ↓reduceIte]; refine hK' _ ?_; clear hK' K'
         iterate 1 (refine AOps.consU fun K' hK' => ?_; simp (disch := omega) only [go_sem, ↓reduceIte]; refine hK' _ ?_; clear hK' K')
         refine AOps.nil ?_
         simp only [Post.then]
         refine hK_48 _ ?_
         clear hK_48 K_48
         refine AWp.cond (b := (decide (r4 ≤ 0))) (by rfl) (fun hb_50 => ?_) (fun hb_50 => ?_)
         ·rw [hb_50, cond_true] at hb_38
          refine AWp.reg ?_
          iterate 2 (refine AOps.consU fun K' hK' => ?_; simp (disch := omega) only [go_sem, ↓reduceIte]; refine hK' _ ?_; clear hK' K')
          refine AOps.nil ?_
          simp only [Post.then, Post.inBlock, ↓reduceIte, Nat.reduceEqDiff]
          rw [← Option.some.inj hb_38] at hl_36
          try dsimp only at hl_36
          exact ⟨(n_35, ((IntKind.i64.wrap ((IntKind.i64.wrap ((IntKind.i64.wrap (lo2 + hi1)) + 1)).tdiv 2)), hi1)), hl_36, Nat.lt_succ_self n_35, (Sub.mk ⟨rfl, rfl, rfl, rfl, rfl, rfl, rfl, trivial⟩ ⟨rfl, trivial⟩ ⟨trivial, trivial, rfl, trivial, trivial, trivial, trivial, trivial⟩ ⟨row_refs _ _, trivial⟩ ⟨rfl, trivial, rfl⟩)⟩
         ·rw [hb_50, cond_false] at hb_38
          refine AWp.reg ?_
          iterate 3 (refine AOps.consU fun K' hK' => ?_; simp (disch := omega) only [go_sem, ↓reduceIte]; refine hK' _ ?_; clear hK' K')
          refine AOps.nil ?_
          simp only [Post.then, Post.inBlock, ↓reduceIte, Nat.reduceEqDiff]
          rw [← Option.some.inj hb_38] at hl_36
          try dsimp only at hl_36
          exact ⟨(n_35, (lo2, (IntKind.i64.wrap ((IntKind.i64.wrap ((IntKind.i64.wrap ((IntKind.i64.wrap (lo2 + hi1)) + 1)).tdiv 2)) - 1)))), hl_36, Nat.lt_succ_self n_35, (Sub.mk ⟨rfl, rfl, rfl, rfl, rfl, rfl, rfl, trivial⟩ ⟨rfl, trivial⟩ ⟨trivial, trivial, rfl, trivial, trivial, trivial, trivial, trivial⟩ ⟨row_refs _ _, trivial⟩ ⟨rfl, trivial, rfl⟩)⟩
        ·rw [hb_43, cond_false] at hb_38
         refine AWp.exit ?_
         simp only [Post.then, Post.inBlock, ↓reduceIte, Nat.reduceEqDiff]
         rw [← Option.some.inj hb_38] at hl_36
         try dsimp only at hl_36
         rw [← Option.some.inj hl_36] at h2_37
         try dsimp only at h2_37
         exact ⟨lo2, (Option.some.inj h2_37).symm, (Sub.mk ⟨rfl, rfl, rfl, rfl, rfl, rfl, trivial⟩ ⟨rfl, trivial⟩ ⟨trivial, trivial, rfl, trivial, trivial, trivial, trivial⟩ ⟨row_refs _ _, trivial⟩ ⟨rfl, trivial, rfl⟩)⟩
      ·rintro lo1 hx_65
       rw [hx_65] at hj_22
       try dsimp only at hj_22
       try dsimp only
       refine AWp.seq fun K_54 hK_54 => AWp.reg ?_
       obtain ⟨e2, hx_55, hj_22⟩ := bind_some hj_22
       obtain ⟨f_56, f_57, f_58, f_59⟩ := idx_some hx_55
       iterate 5 (refine AOps.consU fun K' hK' => ?_; simp (disch := omega) only [go_sem, f_58, ↓reduceIte]; refine hK' _ ?_; clear hK' K')
       refine AOps.nil ?_
       simp only [Post.then]
       refine hK_54 _ ?_
       clear hK_54 K_54
       refine AWp.reg ?_
       iterate 3 (refine AOps.consU fun K' hK' => ?_; simp (disch := omega) only [go_sem, ↓reduceIte]; refine hK' _ ?_; clear hK' K')
       refine AOps.consL fun K' hK' => ?_; simp (disch := omega) only [go_sem, ↓reduceIte]; refine hK' _ ?_; clear hK' K'
       obtain ⟨r5, hx_61, hj_22⟩ := bind_some hj_22
       refine AOps.consU fun K' hK' => ?_; simp (disch := omega) only [go_sem, ↓reduceIte]; refine OpT.call (by rfl) (by rfl) (by kernel_rfl) (m_cocketref01_trim_ok [lo1] _ hx_61) (by exact ⟨rfl, trivial⟩) (by simp only [go_sem, ↓reduceIte]) ?_ (by simp only [go_sem]); simp only [go_sem, ↓reduceIte]; refine hK' _ ?_; clear hK' K'
       obtain ⟨r6, hx_62, hj_22⟩ := bind_some hj_22
       refine AOps.consU fun K' hK' => ?_; simp (disch := omega) only [go_sem, ↓reduceIte]; refine OpT.call (by rfl) (by rfl) (by kernel_rfl) (m_cocketref01_mulD_ok b1 r5 _ hx_62) (by exact ⟨rfl, rfl, trivial⟩) (by simp only [go_sem, ↓reduceIte]) ?_ (by simp only [go_sem]); simp only [go_sem, ↓reduceIte]; refine hK' _ ?_; clear hK' K'
       obtain ⟨r7, hx_63, hj_22⟩ := bind_some hj_22
       refine AOps.consU fun K' hK' => ?_; simp (disch := omega) only [go_sem, ↓reduceIte]; refine OpT.call (by rfl) (by rfl) (by kernel_rfl) (m_cocketref01_subD_ok r1 r6 _ hx_63) (by exact ⟨rfl, rfl, trivial⟩) (by simp only [go_sem, ↓reduceIte]) ?_ (by simp only [go_sem]); simp only [go_sem, ↓reduceIte]; refine hK' _ ?_; clear hK' K'
       iterate 1 (refine AOps.consU fun K' hK' => ?_; simp (disch := omega) only [go_sem, ↓reduceIte]; refine hK' _ ?_; clear hK' K')
       refine AOps.nil ?_
       simp only [Post.then, Post.inBlock, ↓reduceIte, Nat.reduceEqDiff]
       exact ⟨(r7, (L2.set (i1).toNat lo1)), (Option.some.inj hj_22).symm, (Sub.mk ⟨rfl, rfl, slcl (by simp only [List.length_append, List.length_set, List.length_replicate, List.length_cons, List.length_nil, Nat.zero_add]), rfl, rfl, trivial⟩ ⟨rfl, trivial⟩ ⟨trivial, trivial, rfl, trivial, trivial, trivial⟩ ⟨row_refs _ _, trivial⟩ ⟨rfl, trivial, rfl⟩)⟩
     ·rintro ⟨rem3, L3⟩ hx_68
      rw [hx_68] at hb_15
      try dsimp only at hb_15
      try dsimp only
      refine AWp.reg ?_
      iterate 3 (refine AOps.consU fun K' hK' => ?_; simp (disch := omega) only [go_sem, ↓reduceIte]; refine hK' _ ?_; clear hK' K')
      refine AOps.nil ?_
      simp only [Post.then, Post.inBlock, ↓reduceIte, Nat.reduceEqDiff]
      rw [← Option.some.inj hb_15] at hl_13
      try dsimp only at hl_13
      exact ⟨(n_12, (rem3, (IntKind.i64.wrap (i1 - 1)), L3)), hl_13, Nat.lt_succ_self n_12, (Sub.mk ⟨rfl, rfl, slcl (by simp only [List.length_append, List.length_set, List.length_replicate, List.length_cons, List.length_nil, Nat.zero_add]), rfl, rfl, trivial⟩ ⟨rfl, trivial⟩ ⟨trivial, trivial, rfl, trivial, trivial, trivial⟩ ⟨row_refs _ _, trivial⟩ ⟨rfl, trivial, rfl⟩)⟩
    ·rw [hb_20, cond_false] at hb_15
     refine AWp.exit ?_
     simp only [Post.then, Post.inBlock, ↓reduceIte, Nat.reduceEqDiff]
     rw [← Option.some.inj hb_15] at hl_13
     try dsimp only at hl_13
     rw [← Option.some.inj hl_13] at h2_14
     try dsimp only at h2_14
     exact ⟨(rem2, L2), (Option.some.inj h2_14).symm, (Sub.mk ⟨slcl (by simp only [List.length_append, List.length_set, List.length_replicate, List.length_cons, List.length_nil, Nat.zero_add]), rfl, trivial⟩ ⟨rfl, trivial⟩ ⟨rfl, trivial, trivial⟩ ⟨row_refs _ _, trivial⟩ ⟨rfl, trivial, rfl⟩)⟩
  ·rintro ⟨rem1, L1⟩ hx_73
   rw [hx_73] at h
   try dsimp only at h
   try dsimp only
   refine AWp.seq fun K_70 hK_70 => AWp.reg ?_
   iterate 1 (refine AOps.consU fun K' hK' => ?_; simp (disch := omega) only [go_sem, ↓reduceIte]; refine hK' _ ?_; clear hK' K')
   refine AOps.sub (τ := ⟨[(7, .d (.imm 1 (lenc (PD.int .i64) rem1))), (67, .d (.imm 1 (lenc (PD.int .i64) L1)))], [], [], none⟩) (Sub.cv trivial ⟨.inl ⟨leV_refl _, trivial⟩, .inr ⟨_, frz_row rfl (rfl), leV_refl _, rows_slc rfl⟩, trivial⟩ trivial ⟨rfl, trivial, rfl⟩) ?_
   obtain ⟨r8, hx_71, h⟩ := bind_some h
   refine AOps.consU fun K' hK' => ?_; simp (disch := omega) only [go_sem, ↓reduceIte]; refine OpT.call (by rfl) (by rfl) (by kernel_rfl) (m_cocketref01_trim_ok L1 _ hx_71) (by exact ⟨rfl, trivial⟩) (by simp only [go_sem, ↓reduceIte]) ?_ (by simp only [go_sem]); simp only [go_sem, ↓reduceIte]; refine hK' _ ?_; clear hK' K'
   iterate 3 (refine AOps.consU fun K' hK' => ?_; simp (disch := omega) only [go_sem, ↓reduceIte]; refine hK' _ ?_; clear hK' K')
   refine AOps.nil ?_
   simp only [Post.then]
   refine hK_70 _ ?_
   clear hK_70 K_70
   refine AWp.ret ?_
   simp only [Post.then, Post.inBlock, Go.Pv.Fin, Go.Pv.FinG]
   rw [← Option.some.inj h]
   refine ⟨.tuple [.d (.imm 1 (lenc (PD.int .i64) r8)), .d (.imm 1 (lenc (PD.int .i64) rem1))], ?_, (by first | exact True.intro | rfl), .tuple [.d (.imm 1 (lenc (PD.int .i64) r8)), .d (.imm 1 (lenc (PD.int .i64) rem1))], ?_, ?_⟩
   ·simp only [go_sem, Tryd.results99, List.length_append, List.length_set, List.length_replicate, ↓reduceIte]
   ·simp only [go_sem, lenc_nil, List.take_length, List.length_append, List.length_set, List.length_replicate, ↓reduceIte]
   ·(first | exact leV_refl _ | (simp only [go_sem, leV, leVL, leD, leDL, lenc_nil, leD_refl, leDL_refl, lstD_le, ↓reduceIte]; done))
end Go.Pv.Tryd

namespace Go.Pv.Tryd
open Go.Proofs Go.Pv
theorem m_cocketref01_gcdD_ok (a1 : (List Int)) (b1 : (List Int)) (r : (List Int)) (h : m_cocketref01_gcdD a1 b1 = some r) : PureFn Tryd.prog G 87 [.d (.imm 1 (lenc (PD.int .i64) a1)), .d (.imm 1 (lenc (PD.int .i64) b1))] (.d (.imm 1 (lenc (PD.int .i64) r))) := by
 unfold m_cocketref01_gcdD at h
 refine PureFn.intro2 Tryd.func87 (by rfl) (by rw [Tryd.ntmps87]; simp) ?_
 rw [Tryd.ntmps87]
 simp only [argEnv, reduceCtorEq, ↓reduceIte, Nat.reduceAdd, Nat.reduceMul, Nat.reduceLT, Nat.reduceLeDiff, Nat.reduceEqDiff, Nat.reduceBEq, Int.reduceToNat]
 refine AWp.seq fun K_1 hK_1 => AWp.reg ?_
 iterate 1 (refine AOps.consU fun K' hK' => ?_; simp (disch := omega) only [go_sem, ↓reduceIte]; refine hK' _ ?_; clear hK' K')
 refine AOps.nil ?_
 simp only [Post.then]
 refine hK_1 _ ?_
 clear hK_1 K_1
 obtain ⟨o_2, hj_3, h⟩ := bind_some h
 refine AWp.seqI (fun i_18 : (List Int) => ⟨[(0, .d (.imm 1 (lenc (PD.int .i64) i_18)))], [], [], none⟩) (fun i_18 => o_2 = i_18) ?_ ?_
 ·refine AWp.block ?_
  obtain ⟨x_8, hl_5, h2_6⟩ := bind_some hj_3
  obtain ⟨n_4, hl_5⟩ := iter_some hl_5
  refine AWp.loopI (fun i_16 : Nat × ((List Int) × (List Int)) => ⟨[(0, .d (.imm 1 (lenc (PD.int .i64) i_16.2.1))), (1, .d (.imm 1 (lenc (PD.int .i64) i_16.2.2)))], [], [], none⟩) (fun i_16 => iterN m_cocketref01_gcdD_l1 i_16.1 i_16.2 = some x_8) (fun i_16 => i_16.1) (n_4, (a1, b1)) hl_5 (Sub.mk ⟨rfl, rfl, trivial⟩ trivial ⟨trivial, trivial, trivial⟩ trivial ⟨rfl, trivial, rfl⟩) ?_
  clear hl_5
  rintro ⟨n_4, a3, b2⟩ hl_5
  try dsimp only at hl_5
  try dsimp only
  cases n_4 with
  | zero => cases hl_5
  | succ n_4 =>
   rw [iterN_succ] at hl_5
   obtain ⟨ob_9, hb_7, hl_5⟩ := bind_some hl_5
   unfold m_cocketref01_gcdD_l1 at hb_7
   try dsimp only at hb_7
   refine AWp.seq fun K_10 hK_10 => ?_
   refine AWp.seq fun K_11 hK_11 => AWp.reg ?_
   iterate 3 (refine AOps.consU fun K' hK' => ?_; simp (disch := omega) only [go_sem, ↓reduceIte]; refine hK' _ ?_; clear hK' K')
   refine AOps.nil ?_
   simp only [Post.then]
   refine hK_11 _ ?_
   clear hK_11 K_11
   refine AWp.cond (b := (decide (0 < (b2.length : Int)))) (by rfl) (fun hb_12 => ?_) (fun hb_12 => ?_)
   ·rw [hb_12, cond_true] at hb_7
    refine AWp.skip ?_
    simp only [Post.then, Post.inBlock, ↓reduceIte, Nat.reduceEqDiff]
    refine hK_10 _ ?_
    clear hK_10 K_10
    refine AWp.block ?_
    refine AWp.seq fun K_13 hK_13 => AWp.reg ?_
    iterate 2 (refine AOps.consU fun K' hK' => ?_; simp (disch := omega) only [go_sem, ↓reduceIte]; refine hK' _ ?_; clear hK' K')
    obtain ⟨r1, hx_14, hb_7⟩ := bind_some hb_7
    refine AOps.consU fun K' hK' => ?_; simp (disch := omega) only [go_sem, ↓reduceIte]; refine OpT.call (by rfl) (by rfl) (by kernel_rfl) (m_cocketref01_divD_ok a3 b2 _ hx_14) (by exact ⟨rfl, rfl, trivial⟩) (by simp only [go_sem, ↓reduceIte]) ?_ (by simp only [go_sem]); simp only [go_sem, ↓reduceIte]; refine hK' _ ?_; clear hK' K'
    iterate 5 (refine AOps.consU fun K' hK' => ?_; simp (disch := omega) only [go_sem, ↓reduceIte]; refine hK' _ ?_; clear hK' K')
    refine AOps.nil ?_
    simp only [Post.then]
    refine hK_13 _ ?_
    clear hK_13 K_13
    refine AWp.reg ?_
    iterate 4 (refine AOps.consU fun K' hK' => ?_; simp (disch := omega) only [go_sem, ↓reduceIte]; refine hK' _ ?_; clear hK' K')
    refine AOps.nil ?_
    simp only [Post.then, Post.inBlock, ↓reduceIte, Nat.reduceEqDiff]
    rw [← Option.some.inj hb_7] at hl_5
    try dsimp only at hl_5
    exact ⟨(n_4, (b2, r1.2)), hl_5, Nat.lt_succ_self n_4, (Sub.mk ⟨rfl, rfl, trivial⟩ trivial ⟨trivial, trivial, trivial⟩ trivial ⟨rfl, trivial, rfl⟩)⟩
   ·rw [hb_12, cond_false] at hb_7
    refine AWp.exit ?_
    simp only [Post.then, Post.inBlock, ↓reduceIte, Nat.reduceEqDiff]
    rw [← Option.some.inj hb_7] at hl_5
    try dsimp only at hl_5
    rw [← Option.some.inj hl_5] at h2_6
    try dsimp only at h2_6
    exact ⟨a3, (Option.some.inj h2_6).symm, (Sub.mk ⟨rfl, trivial⟩ trivial ⟨trivial, trivial⟩ trivial ⟨rfl, trivial, rfl⟩)⟩
 ·rintro a2 hx_19
  rw [hx_19] at h
  try dsimp only at h
  try dsimp only
  refine AWp.seq fun K_17 hK_17 => AWp.reg ?_
  iterate 2 (refine AOps.consU fun K' hK' => ?_; simp (disch := omega) only [go_sem, ↓reduceIte]; refine hK' _ ?_; clear hK' K')
  refine AOps.nil ?_
  simp only [Post.then]
  refine hK_17 _ ?_
  clear hK_17 K_17
  refine AWp.ret ?_
  simp only [Post.then, Post.inBlock, Go.Pv.Fin, Go.Pv.FinG]
  rw [← Option.some.inj h]
  refine ⟨.d (.imm 1 (lenc (PD.int .i64) a2)), ?_, (by first | exact True.intro | rfl), .d (.imm 1 (lenc (PD.int .i64) a2)), ?_, ?_⟩
  ·simp only [go_sem, Tryd.results87, List.length_append, List.length_set, List.length_replicate, ↓reduceIte]
  ·simp only [go_sem, lenc_nil, List.take_length, List.length_append, List.length_set, List.length_replicate, ↓reduceIte]
  ·(first | exact leV_refl _ | (simp only [go_sem, leV, leVL, leD, leDL, lenc_nil, leD_refl, leDL_refl, lstD_le, ↓reduceIte]; done))
end Go.Pv.Tryd

namespace Go.Pv.Tryd
open Go.Proofs Go.Pv
theorem m_cocketref01_addD_ok (a1 : (List Int)) (b1 : (List Int)) (r : (List Int)) (h : m_cocketref01_addD a1 b1 = some r) : PureFn Tryd.prog G 100 [.d (.imm 1 (lenc (PD.int .i64) a1)), .d (.imm 1 (lenc (PD.int .i64) b1))] (.d (.imm 1 (lenc (PD.int .i64) r))) := by
 unfold m_cocketref01_addD at h
 refine PureFn.intro2 Tryd.func100 (by rfl) (by rw [Tryd.ntmps100]; simp) ?_
 rw [Tryd.ntmps100]
 simp only [argEnv, reduceCtorEq, ↓reduceIte, Nat.reduceAdd, Nat.reduceMul, Nat.reduceLT, Nat.reduceLeDiff, Nat.reduceEqDiff, Nat.reduceBEq, Int.reduceToNat]
 refine AWp.seq fun K_1 hK_1 => AWp.reg ?_
 iterate 1 (refine AOps.consU fun K' hK' => ?_; simp (disch := omega) only [go_sem, ↓reduceIte]; refine hK' _ ?_; clear hK' K')
 refine AOps.nil ?_
 simp only [Post.then]
 refine hK_1 _ ?_
 clear hK_1 K_1
 refine AWp.seq fun K_2 hK_2 => AWp.reg ?_
 iterate 1 (refine AOps.consU fun K' hK' => ?_; simp (disch := omega) only [go_sem, ↓reduceIte]; refine hK' _ ?_; clear hK' K')
 refine AOps.nil ?_
 simp only [Post.then]
 refine hK_2 _ ?_
 clear hK_2 K_2
 refine AWp.sub (Sub.void 5 3 1 1000 (by rfl) (by rfl) (by decide) (by decide)) ?_
 simp only [eput, hput, reduceCtorEq, ↓reduceIte, Nat.reduceAdd, Nat.reduceMul, Nat.reduceLT, Nat.reduceLeDiff, Nat.reduceEqDiff, Nat.reduceBEq, Int.reduceToNat]
 refine AWp.seq fun K_3 hK_3 => AWp.reg ?_
 iterate 1 (refine AOps.consU fun K' hK' => ?_; simp (disch := omega) only [go_sem, ↓reduceIte]; refine hK' _ ?_; clear hK' K')
 refine AOps.nil ?_
 simp only [Post.then]
 refine hK_3 _ ?_
 clear hK_3 K_3
 obtain ⟨o_4, hj_5, h⟩ := bind_some h
 refine AWp.seqI (fun i_52 : (List Int) => ⟨[(5, .slc 1000 0 i_52.length)], [(1000, ⟨3, 1, dl (lenc (PD.int .i64) i_52)⟩)], [], none⟩) (fun i_52 => o_4 = i_52) ?_ ?_
 ·refine AWp.seq fun K_6 hK_6 => AWp.reg ?_
  iterate 1 (refine AOps.consU fun K' hK' => ?_; simp (disch := omega) only [go_sem, ↓reduceIte]; refine hK' _ ?_; clear hK' K')
  refine AOps.nil ?_
  simp only [Post.then]
  refine hK_6 _ ?_
  clear hK_6 K_6
  refine AWp.block ?_
  obtain ⟨x_11, hl_8, h2_9⟩ := bind_some hj_5
  obtain ⟨n_7, hl_8⟩ := iter_some hl_8
  refine AWp.loopI (fun i_50 : Nat × (Int × Int × (List Int)) => ⟨[(0, .d (.imm 1 (lenc (PD.int .i64) a1))), (1, .d (.imm 1 (lenc (PD.int .i64) b1))), (5, .slc 1000 0 i_50.2.2.2.length), (6, .d (.int .i64 i_50.2.1)), (7, .d (.int .i64 i_50.2.2.1))], [(1000, ⟨3, 1, dl (lenc (PD.int .i64) i_50.2.2.2)⟩)], [], none⟩) (fun i_50 => iterN (m_cocketref01_addD_l1 a1 b1) i_50.1 i_50.2 = some x_11) (fun i_50 => i_50.1) (n_7, (0, 0, [])) hl_8 (Sub.mk ⟨rfl, rfl, slcl (by simp only [List.length_append, List.length_set, List.length_replicate, List.length_cons, List.length_nil, Nat.zero_add]), rfl, rfl, trivial⟩ ⟨rfl, trivial⟩ ⟨trivial, trivial, rfl, trivial, trivial, trivial⟩ ⟨row_refs _ _, trivial⟩ ⟨rfl, trivial, rfl⟩) ?_
  clear hl_8
  rintro ⟨n_7, carry1, i1, L2⟩ hl_8
  try dsimp only at hl_8
  try dsimp only
  cases n_7 with
  | zero => cases hl_8
  | succ n_7 =>
   rw [iterN_succ] at hl_8
   obtain ⟨ob_12, hb_10, hl_8⟩ := bind_some hl_8
   unfold m_cocketref01_addD_l1 at hb_10
   try dsimp only at hb_10
   refine AWp.seq fun K_13 hK_13 => ?_
   refine AWp.seq fun K_14 hK_14 => AWp.reg ?_
   iterate 5 (refine AOps.consU fun K' hK' => ?_; simp (disch := omega) only [go_sem, ↓reduceIte]; refine hK' _ ?_; clear hK' K')
   refine AOps.cut 5 (⟨[(0, .d (.imm 1 (lenc (PD.int .i64) a1))), (1, .d (.imm 1 (lenc (PD.int .i64) b1))), (5, .slc 1000 0 L2.length), (6, .d (.int .i64 carry1)), (7, .d (.int .i64 i1)), (18, .d (.bool ((decide (i1 < (a1.length : Int))) || (decide (i1 < (b1.length : Int))))))], [(1000, ⟨3, 1, dl (lenc (PD.int .i64) L2)⟩)], [], none⟩) ?_ ?_
   ·simp only [List.take_succ_cons, List.take_zero]
    rcases Bool.eq_false_or_eq_true (decide (i1 < (a1.length : Int))) with hg_16 | hg_16
    ·rw [hg_16]
     iterate 5 (refine AOps.consU fun K' hK' => ?_; simp (disch := omega) only [go_sem, ↓reduceIte]; refine hK' _ ?_; clear hK' K')
     refine AOps.nil ?_
     exact (Sub.mk ⟨rfl, rfl, rfl, rfl, rfl, rfl, trivial⟩ ⟨rfl, trivial⟩ ⟨trivial, trivial, rfl, trivial, trivial, trivial, trivial⟩ ⟨row_refs _ _, trivial⟩ ⟨rfl, trivial, rfl⟩)
    ·rw [hg_16]
     iterate 5 (refine AOps.consU fun K' hK' => ?_; simp (disch := omega) only [go_sem, ↓reduceIte]; refine hK' _ ?_; clear hK' K')
     refine AOps.nil ?_
     exact (Sub.mk ⟨rfl, rfl, rfl, rfl, rfl, rfl, trivial⟩ ⟨rfl, trivial⟩ ⟨trivial, trivial, rfl, trivial, trivial, trivial, trivial⟩ ⟨row_refs _ _, trivial⟩ ⟨rfl, trivial, rfl⟩)
   simp only [List.drop_succ_cons, List.drop_zero]
   iterate 1 (refine AOps.consU fun K' hK' => ?_; simp (disch := omega) only [go_sem, ↓reduceIte]; refine hK' _ ?_; clear hK' K')
   refine AOps.cut 3 (⟨[(0, .d (.imm 1 (lenc (PD.int .i64) a1))), (1, .d (.imm 1 (lenc (PD.int .i64) b1))), (5, .slc 1000 0 L2.length), (6, .d (.int .i64 carry1)), (7, .d (.int .i64 i1)), (22, .d (.bool (((decide (i1 < (a1.length : Int))) || (decide (i1 < (b1.length : Int)))) || (decide (0 < carry1)))))], [(1000, ⟨3, 1, dl (lenc (PD.int .i64) L2)⟩)], [], none⟩) ?_ ?_
   ·simp only [List.take_succ_cons, List.take_zero]
    rcases Bool.eq_false_or_eq_true ((decide (i1 < (a1.length : Int))) || (decide (i1 < (b1.length : Int)))) with hg_18 | hg_18
    ·rw [hg_18]
     iterate 3 (refine AOps.consU fun K' hK' => ?_; simp (disch := omega) only [go_sem, ↓reduceIte]; refine hK' _ ?_; clear hK' K')
     refine AOps.nil ?_
     exact (Sub.mk ⟨rfl, rfl, rfl, rfl, rfl, rfl, trivial⟩ ⟨rfl, trivial⟩ ⟨trivial, trivial, rfl, trivial, trivial, trivial, trivial⟩ ⟨row_refs _ _, trivial⟩ ⟨rfl, trivial, rfl⟩)
    ·rw [hg_18]
     iterate 3 (refine AOps.consU fun K' hK' => ?_; simp (disch := omega) only [go_sem, ↓reduceIte]; refine hK' _ ?_; clear hK' K')
     refine AOps.nil ?_
     exact (Sub.mk ⟨rfl, rfl, rfl, rfl, rfl, rfl, trivial⟩ ⟨rfl, trivial⟩ ⟨trivial, trivial, rfl, trivial, trivial, trivial, trivial⟩ ⟨row_refs _ _, trivial⟩ ⟨rfl, trivial, rfl⟩)
   simp only [List.drop_succ_cons, List.drop_zero]
   refine AOps.nil ?_
   simp only [Post.then]
   refine hK_14 _ ?_
   clear hK_14 K_14
   refine AWp.cond (b := (((decide (i1 < (a1.length : Int))) || (decide (i1 < (b1.length : Int)))) || (decide (0 < carry1)))) (by rfl) (fun hb_19 => ?_) (fun hb_19 => ?_)
   ·rw [hb_19, cond_true] at hb_10
    refine AWp.skip ?_
    simp only [Post.then, Post.inBlock, ↓reduceIte, Nat.reduceEqDiff]
    refine hK_13 _ ?_
    clear hK_13 K_13
    refine AWp.seq fun K_20 hK_20 => ?_
    refine AWp.block ?_
    refine AWp.seq fun K_21 hK_21 => AWp.reg ?_
    iterate 2 (refine AOps.consU fun K' hK' => ?_; simp (disch := omega) only [go_sem, ↓reduceIte]; refine hK' _ ?_; clear hK' K')
    refine AOps.nil ?_
    simp only [Post.then]
    refine hK_21 _ ?_
    clear hK_21 K_21
    obtain ⟨o_22, hj_23, hb_10⟩ := bind_some hb_10
    refine AWp.seqI (fun i_48 : Int => ⟨[(0, .d (.imm 1 (lenc (PD.int .i64) a1))), (1, .d (.imm 1 (lenc (PD.int .i64) b1))), (5, .slc 1000 0 L2.length), (7, .d (.int .i64 i1)), (8, .d (.int .i64 i_48))], [(1000, ⟨3, 1, dl (lenc (PD.int .i64) L2)⟩)], [], none⟩) (fun i_48 => o_22 = i_48) ?_ ?_
    ·refine AWp.seq fun K_24 hK_24 => AWp.reg ?_
     iterate 4 (refine AOps.consU fun K' hK' => ?_; simp (disch := omega) only [go_sem, ↓reduceIte]; refine hK' _ ?_; clear hK' K')
     refine AOps.nil ?_
     simp only [Post.then]
     refine hK_24 _ ?_
     clear hK_24 K_24
     refine AWp.cond (b := (decide (i1 < (a1.length : Int)))) (by rfl) (fun hb_25 => ?_) (fun hb_25 => ?_)
     ·rw [hb_25, cond_true] at hj_23
      refine AWp.reg ?_
      obtain ⟨e1, hx_27, hj_23⟩ := bind_some hj_23
      obtain ⟨f_28, f_29, f_30, f_31⟩ := idx_some hx_27
      iterate 7 (refine AOps.consU fun K' hK' => ?_; simp (disch := omega) only [go_sem, f_30, ↓reduceIte]; refine hK' _ ?_; clear hK' K')
      refine AOps.nil ?_
      simp only [Post.then, Post.inBlock, ↓reduceIte, Nat.reduceEqDiff]
      exact ⟨(IntKind.i64.wrap (carry1 + e1)), (Option.some.inj hj_23).symm, (Sub.mk ⟨rfl, rfl, rfl, rfl, rfl, trivial⟩ ⟨rfl, trivial⟩ ⟨trivial, trivial, rfl, trivial, trivial, trivial⟩ ⟨row_refs _ _, trivial⟩ ⟨rfl, trivial, rfl⟩)⟩
     ·rw [hb_25, cond_false] at hj_23
      refine AWp.skip ?_
      simp only [Post.then, Post.inBlock, ↓reduceIte, Nat.reduceEqDiff]
      exact ⟨carry1, (Option.some.inj hj_23).symm, (Sub.mk ⟨rfl, rfl, rfl, rfl, rfl, trivial⟩ ⟨rfl, trivial⟩ ⟨trivial, trivial, rfl, trivial, trivial, trivial⟩ ⟨row_refs _ _, trivial⟩ ⟨rfl, trivial, rfl⟩)⟩
    ·rintro s1 hx_49
     rw [hx_49] at hb_10
     try dsimp only at hb_10
     try dsimp only
     obtain ⟨o_32, hj_33, hb_10⟩ := bind_some hb_10
     refine AWp.seqI (fun i_46 : Int => ⟨[(0, .d (.imm 1 (lenc (PD.int .i64) a1))), (1, .d (.imm 1 (lenc (PD.int .i64) b1))), (5, .slc 1000 0 L2.length), (7, .d (.int .i64 i1)), (8, .d (.int .i64 i_46))], [(1000, ⟨3, 1, dl (lenc (PD.int .i64) L2)⟩)], [], none⟩) (fun i_46 => o_32 = i_46) ?_ ?_
     ·refine AWp.seq fun K_34 hK_34 => AWp.reg ?_
      iterate 4 (refine AOps.consU fun K' hK' => ?_; simp (disch := omega) only [go_sem, ↓reduceIte]; refine hK' _ ?_; clear hK' K')
      refine AOps.nil ?_
      simp only [Post.then]
      refine hK_34 _ ?_
      clear hK_34 K_34
      refine AWp.cond (b := (decide (i1 < (b1.length : Int)))) (by rfl) (fun hb_35 => ?_) (fun hb_35 => ?_)
      ·rw [hb_35, cond_true] at hj_33
       refine AWp.reg ?_
       obtain ⟨e2, hx_37, hj_33⟩ := bind_some hj_33
       obtain ⟨f_38, f_39, f_40, f_41⟩ := idx_some hx_37
       iterate 7 (refine AOps.consU fun K' hK' => ?_; simp (disch := omega) only [go_sem, f_40, ↓reduceIte]; refine hK' _ ?_; clear hK' K')
       refine AOps.nil ?_
       simp only [Post.then, Post.inBlock, ↓reduceIte, Nat.reduceEqDiff]
       exact ⟨(IntKind.i64.wrap (s1 + e2)), (Option.some.inj hj_33).symm, (Sub.mk ⟨rfl, rfl, rfl, rfl, rfl, trivial⟩ ⟨rfl, trivial⟩ ⟨trivial, trivial, rfl, trivial, trivial, trivial⟩ ⟨row_refs _ _, trivial⟩ ⟨rfl, trivial, rfl⟩)⟩
      ·rw [hb_35, cond_false] at hj_33
       refine AWp.skip ?_
       simp only [Post.then, Post.inBlock, ↓reduceIte, Nat.reduceEqDiff]
       exact ⟨s1, (Option.some.inj hj_33).symm, (Sub.mk ⟨rfl, rfl, rfl, rfl, rfl, trivial⟩ ⟨rfl, trivial⟩ ⟨trivial, trivial, rfl, trivial, trivial, trivial⟩ ⟨row_refs _ _, trivial⟩ ⟨rfl, trivial, rfl⟩)⟩
     ·rintro s2 hx_47
      rw [hx_47] at hb_10
      try dsimp only at hb_10
      try dsimp only
      refine AWp.seq fun K_42 hK_42 => AWp.reg ?_
      iterate 3 (refine AOps.consU fun K' hK' => ?_; simp (disch := omega) only [go_sem, ↓reduceIte]; refine hK' _ ?_; clear hK' K')
      refine AOps.consL fun K' hK' => ?_; simp (disch := omega) only [go_sem, ↓reduceIte]; refine hK' _ ?_; clear hK' K'
      obtain ⟨hg_43, hb_10⟩ := guardO_some hb_10
      iterate 2 (refine AOps.consU fun K' hK' => ?_; simp (disch := omega) only [go_sem, ↓reduceIte]; refine hK' _ ?_; clear hK' K')
      refine AOps.nil ?_
      simp only [Post.then]
      refine hK_42 _ ?_
      clear hK_42 K_42
      refine AWp.reg ?_
      iterate 3 (refine AOps.consU fun K' hK' => ?_; simp (disch := omega) only [go_sem, ↓reduceIte]; refine hK' _ ?_; clear hK' K')
      refine AOps.nil ?_
      simp only [Post.then, Post.inBlock, ↓reduceIte, Nat.reduceEqDiff]
      refine hK_20 _ ?_
      clear hK_20 K_20
      refine AWp.reg ?_
      iterate 3 (refine AOps.consU fun K' hK' => ?_; simp (disch := omega) only [go_sem, ↓reduceIte]; refine hK' _ ?_; clear hK' K')
      refine AOps.nil ?_
      simp only [Post.then, Post.inBlock, ↓reduceIte, Nat.reduceEqDiff]
      rw [← Option.some.inj hb_10] at hl_8
      try dsimp only at hl_8
      exact ⟨(n_7, ((IntKind.i64.wrap (s2.tdiv 10000)), (IntKind.i64.wrap (i1 + 1)), (L2 ++ [(s2.tmod 10000)]))), hl_8, Nat.lt_succ_self n_7, (Sub.mk ⟨rfl, rfl, slcl (by simp only [List.length_append, List.length_set, List.length_replicate, List.length_cons, List.length_nil, Nat.zero_add]), rfl, rfl, trivial⟩ ⟨rfl, trivial⟩ ⟨trivial, trivial, rfl, trivial, trivial, trivial⟩ ⟨row_refs _ _, trivial⟩ ⟨rfl, trivial, rfl⟩)⟩
   ·rw [hb_19, cond_false] at hb_10
    refine AWp.exit ?_
    simp only [Post.then, Post.inBlock, ↓reduceIte, Nat.reduceEqDiff]
    rw [← Option.some.inj hb_10] at hl_8
    try dsimp only at hl_8
    rw [← Option.some.inj hl_8] at h2_9
    try dsimp only at h2_9
    exact ⟨L2, (Option.some.inj h2_9).symm, (Sub.mk ⟨slcl (by simp only [List.length_append, List.length_set, List.length_replicate, List.length_cons, List.length_nil, Nat.zero_add]), trivial⟩ ⟨rfl, trivial⟩ ⟨rfl, trivial⟩ ⟨row_refs _ _, trivial⟩ ⟨rfl, trivial, rfl⟩)⟩
 ·rintro L1 hx_53
  rw [hx_53] at h
  try dsimp only at h
  try dsimp only
  refine AWp.seq fun K_51 hK_51 => AWp.reg ?_
  iterate 2 (refine AOps.consU fun K' hK' => ?_; simp (disch := omega) only [go_sem, ↓reduceIte]; refine hK' _ ?_; clear hK' K')
  refine AOps.nil ?_
  simp only [Post.then]
  refine hK_51 _ ?_
  clear hK_51 K_51
  refine AWp.ret ?_
  simp only [Post.then, Post.inBlock, Go.Pv.Fin, Go.Pv.FinG]
  rw [← Option.some.inj h]
  refine ⟨.slc 1000 0 L1.length, ?_, (by first | exact True.intro | rfl), .d (.imm 1 (lenc (PD.int .i64) L1)), ?_, ?_⟩
  ·simp only [go_sem, Tryd.results100, List.length_append, List.length_set, List.length_replicate, ↓reduceIte]
  ·simp only [go_sem, lenc_nil, List.take_length, List.length_append, List.length_set, List.length_replicate, ↓reduceIte]
  ·(first | exact leV_refl _ | (simp only [go_sem, leV, leVL, leD, leDL, lenc_nil, leD_refl, leDL_refl, lstD_le, ↓reduceIte]; done))
end Go.Pv.Tryd

namespace Go.Pv.Tryd
open Go.Proofs Go.Pv
theorem m_cocketref01_Over_ok (a1 : Big) (b1 : Big) (r : (Big × Big)) (h : m_cocketref01_Over a1 b1 = some r) : PureFn Tryd.prog G 88 [.d (.agg [(.bool a1.Neg), (.imm 1 (lenc (PD.int .i64) a1.D))]), .d (.agg [(.bool b1.Neg), (.imm 1 (lenc (PD.int .i64) b1.D))])] (.tuple [.d (.agg [(.bool r.1.Neg), (.imm 1 (lenc (PD.int .i64) r.1.D))]), .d (.agg [(.bool r.2.Neg), (.imm 1 (lenc (PD.int .i64) r.2.D))])]) := by
 unfold m_cocketref01_Over at h
 refine PureFn.intro2 Tryd.func88 (by rfl) (by rw [Tryd.ntmps88]; simp) ?_
 rw [Tryd.ntmps88]
 simp only [argEnv, reduceCtorEq, ↓reduceIte, Nat.reduceAdd, Nat.reduceMul, Nat.reduceLT, Nat.reduceLeDiff, Nat.reduceEqDiff, Nat.reduceBEq, Int.reduceToNat]
 refine AWp.seq fun K_1 hK_1 => AWp.reg ?_
 iterate 4 (refine AOps.consU fun K' hK' => ?_; simp (disch := omega) only [go_sem, ↓reduceIte]; refine hK' _ ?_; clear hK' K')
 refine AOps.nil ?_
 simp only [Post.then]
 refine hK_1 _ ?_
 clear hK_1 K_1
 refine AWp.seq fun K_2 hK_2 => AWp.reg ?_
 iterate 4 (refine AOps.consU fun K' hK' => ?_; simp (disch := omega) only [go_sem, ↓reduceIte]; refine hK' _ ?_; clear hK' K')
 obtain ⟨r1, hx_3, h⟩ := bind_some h
 refine AOps.consU fun K' hK' => ?_; simp (disch := omega) only [go_sem, ↓reduceIte]; refine OpT.call (by rfl) (by rfl) (by kernel_rfl) (m_cocketref01_divD_ok a1.D b1.D _ hx_3) (by exact ⟨rfl, rfl, trivial⟩) (by simp only [go_sem, ↓reduceIte]) ?_ (by simp only [go_sem]); simp only [go_sem, ↓reduceIte]; refine hK' _ ?_; clear hK' K'
 iterate 5 (refine AOps.consU fun K' hK' => ?_; simp (disch := omega) only [go_sem, ↓reduceIte]; refine hK' _ ?_; clear hK' K')
 refine AOps.nil ?_
 simp only [Post.then]
 refine hK_2 _ ?_
 clear hK_2 K_2
 refine AWp.seq fun K_4 hK_4 => ?_
 refine AWp.seq fun K_5 hK_5 => AWp.reg ?_
 iterate 3 (refine AOps.consU fun K' hK' => ?_; simp (disch := omega) only [go_sem, ↓reduceIte]; refine hK' _ ?_; clear hK' K')
 refine AOps.nil ?_
 simp only [Post.then]
 refine hK_5 _ ?_
 clear hK_5 K_5
 refine AWp.cond (b := (!a1.Neg)) (by rfl) (fun hb_6 => ?_) (fun hb_6 => ?_)
 ·rw [hb_6, cond_true] at h
  refine AWp.seq fun K_7 hK_7 => AWp.reg ?_
  iterate 1 (refine AOps.consU fun K' hK' => ?_; simp (disch := omega) only [go_sem, ↓reduceIte]; refine hK' _ ?_; clear hK' K')
  obtain ⟨r2, hx_8, h⟩ := bind_some h
  refine AOps.consU fun K' hK' => ?_; simp (disch := omega) only [go_sem, ↓reduceIte]; refine OpT.call (by rfl) (by rfl) (by kernel_rfl) (m_cocketref01_whole_ok false r1.1 _ hx_8) (by exact ⟨rfl, rfl, trivial⟩) (by simp only [go_sem, ↓reduceIte]) ?_ (by simp only [go_sem]); simp only [go_sem, ↓reduceIte]; refine hK' _ ?_; clear hK' K'
  iterate 1 (refine AOps.consU fun K' hK' => ?_; simp (disch := omega) only [go_sem, ↓reduceIte]; refine hK' _ ?_; clear hK' K')
  obtain ⟨r3, hx_9, h⟩ := bind_some h
  refine AOps.consU fun K' hK' => ?_; simp (disch := omega) only [go_sem, ↓reduceIte]; refine OpT.call (by rfl) (by rfl) (by kernel_rfl) (m_cocketref01_whole_ok false r1.2 _ hx_9) (by exact ⟨rfl, rfl, trivial⟩) (by simp only [go_sem, ↓reduceIte]) ?_ (by simp only [go_sem]); simp only [go_sem, ↓reduceIte]; refine hK' _ ?_; clear hK' K'
  iterate 2 (refine AOps.consU fun K' hK' => ?_; simp (disch := omega) only [go_sem, ↓reduceIte]; refine hK' _ ?_; clear hK' K')
  refine AOps.nil ?_
  simp only [Post.then]
  refine hK_7 _ ?_
  clear hK_7 K_7
  refine AWp.ret ?_
  simp only [Post.then, Post.inBlock, Go.Pv.Fin, Go.Pv.FinG]
  rw [← Option.some.inj h]
  refine ⟨.tuple [.d (.agg [(.bool r2.Neg), (.imm 1 (lenc (PD.int .i64) r2.D))]), .d (.agg [(.bool r3.Neg), (.imm 1 (lenc (PD.int .i64) r3.D))])], ?_, (by first | exact True.intro | rfl), .tuple [.d (.agg [(.bool r2.Neg), (.imm 1 (lenc (PD.int .i64) r2.D))]), .d (.agg [(.bool r3.Neg), (.imm 1 (lenc (PD.int .i64) r3.D))])], ?_, ?_⟩
  ·simp only [go_sem, Tryd.results88, List.length_append, List.length_set, List.length_replicate, ↓reduceIte]
  ·simp only [go_sem, lenc_nil, List.take_length, List.length_append, List.length_set, List.length_replicate, ↓reduceIte]
  ·(first | exact leV_refl _ | (simp only [go_sem, leV, leVL, leD, leDL, lenc_nil, leD_refl, leDL_refl, lstD_le, ↓reduceIte]; done))
 ·rw [hb_6, cond_false] at h
  refine AWp.skip ?_
  simp only [Post.then, Post.inBlock, ↓reduceIte, Nat.reduceEqDiff]
  refine hK_4 _ ?_
  clear hK_4 K_4
  refine AWp.seq fun K_10 hK_10 => ?_
  refine AWp.seq fun K_11 hK_11 => AWp.reg ?_
  iterate 3 (refine AOps.consU fun K' hK' => ?_; simp (disch := omega) only [go_sem, ↓reduceIte]; refine hK' _ ?_; clear hK' K')
  refine AOps.nil ?_
  simp only [Post.then]
  refine hK_11 _ ?_
  clear hK_11 K_11
  refine AWp.cond (b := (decide ((r1.2.length : Int) = 0))) (by rfl) (fun hb_12 => ?_) (fun hb_12 => ?_)
  ·rw [hb_12, cond_true] at h
   refine AWp.seq fun K_13 hK_13 => AWp.reg ?_
   iterate 1 (refine AOps.consU fun K' hK' => ?_; simp (disch := omega) only [go_sem, ↓reduceIte]; refine hK' _ ?_; clear hK' K')
   obtain ⟨r4, hx_14, h⟩ := bind_some h
   refine AOps.consU fun K' hK' => ?_; simp (disch := omega) only [go_sem, ↓reduceIte]; refine OpT.call (by rfl) (by rfl) (by kernel_rfl) (m_cocketref01_whole_ok true r1.1 _ hx_14) (by exact ⟨rfl, rfl, trivial⟩) (by simp only [go_sem, ↓reduceIte]) ?_ (by simp only [go_sem]); simp only [go_sem, ↓reduceIte]; refine hK' _ ?_; clear hK' K'
   iterate 3 (refine AOps.consU fun K' hK' => ?_; simp (disch := omega) only [go_sem, ↓reduceIte]; refine hK' _ ?_; clear hK' K')
   refine AOps.nil ?_
   simp only [Post.then]
   refine hK_13 _ ?_
   clear hK_13 K_13
   refine AWp.ret ?_
   simp only [Post.then, Post.inBlock, Go.Pv.Fin, Go.Pv.FinG]
   rw [← Option.some.inj h]
   refine ⟨.tuple [.d (.agg [(.bool r4.Neg), (.imm 1 (lenc (PD.int .i64) r4.D))]), .d (.agg [(.bool false), .nilslice])], ?_, (by first | exact True.intro | rfl), .tuple [.d (.agg [(.bool r4.Neg), (.imm 1 (lenc (PD.int .i64) r4.D))]), .d (.agg [(.bool false), .nilslice])], ?_, ?_⟩
   ·simp only [go_sem, Tryd.results88, List.length_append, List.length_set, List.length_replicate, ↓reduceIte]
   ·simp only [go_sem, lenc_nil, List.take_length, List.length_append, List.length_set, List.length_replicate, ↓reduceIte]
   ·(first | exact leV_refl _ | (simp only [go_sem, leV, leVL, leD, leDL, lenc_nil, leD_refl, leDL_refl, lstD_le, ↓reduceIte]; done))
  ·rw [hb_12, cond_false] at h
   refine AWp.skip ?_
   simp only [Post.then, Post.inBlock, ↓reduceIte, Nat.reduceEqDiff]
   refine hK_10 _ ?_
   clear hK_10 K_10
   refine AWp.seq fun K_15 hK_15 => AWp.draw mo [] (by trivial) ?_
   iterate 1 (refine DOps.consU fun K' hK' => ?_; simp (disch := omega) only [go_sem, ↓reduceIte]; refine hK' _ _ ?_; clear hK' K'; simp only [List.nil_append, List.cons_append])
   refine DOps.consLU fun K' hK' => ?_; simp (disch := omega) only [go_sem, ↓reduceIte]; refine hK' _ _ ?_; clear hK' K'; simp only [List.nil_append, List.cons_append]
   obtain ⟨r5, hx_16, h⟩ := bind_some h
   refine DOps.consC fun K' hK' => ?_; simp (disch := omega) only [go_sem, ↓reduceIte]; refine OpX.call (by rfl) (by rfl) (by kernel_rfl) (m_cocketref01_addD_ok r1.1 [1] _ hx_16) (by exact ⟨rfl, rfl, trivial⟩) (by simp only [go_sem, ↓reduceIte]) (by simp only [go_sem]) (by simp only [go_sem, or_true, true_or, ↓reduceIte]) ?_; simp only [go_sem, ↓reduceIte]; refine hK' _ _ ?_; clear hK' K'; simp only [List.nil_append, List.cons_append]
   obtain ⟨r6, hx_17, h⟩ := bind_some h
   refine DOps.consC fun K' hK' => ?_; simp (disch := omega) only [go_sem, ↓reduceIte]; refine OpX.call (by rfl) (by rfl) (by kernel_rfl) (m_cocketref01_whole_ok true r5 _ hx_17) (by exact ⟨rfl, rfl, trivial⟩) (by simp only [go_sem, ↓reduceIte]) (by simp only [go_sem]) (by simp only [go_sem, or_true, true_or, ↓reduceIte]) ?_; simp only [go_sem, ↓reduceIte]; refine hK' _ _ ?_; clear hK' K'; simp only [List.nil_append, List.cons_append]
   iterate 3 (refine DOps.consU fun K' hK' => ?_; simp (disch := omega) only [go_sem, ↓reduceIte]; refine hK' _ _ ?_; clear hK' K'; simp only [List.nil_append, List.cons_append])
   obtain ⟨r7, hx_18, h⟩ := bind_some h
   refine DOps.consC fun K' hK' => ?_; simp (disch := omega) only [go_sem, ↓reduceIte]; refine OpX.call (by rfl) (by rfl) (by kernel_rfl) (m_cocketref01_subD_ok b1.D r1.2 _ hx_18) (by exact ⟨rfl, rfl, trivial⟩) (by simp only [go_sem, ↓reduceIte]) (by simp only [go_sem]) (by simp only [go_sem, or_true, true_or, ↓reduceIte]) ?_; simp only [go_sem, ↓reduceIte]; refine hK' _ _ ?_; clear hK' K'; simp only [List.nil_append, List.cons_append]
   obtain ⟨r8, hx_19, h⟩ := bind_some h
   refine DOps.consC fun K' hK' => ?_; simp (disch := omega) only [go_sem, ↓reduceIte]; refine OpX.call (by rfl) (by rfl) (by kernel_rfl) (m_cocketref01_whole_ok false r7 _ hx_19) (by exact ⟨rfl, rfl, trivial⟩) (by simp only [go_sem, ↓reduceIte]) (by simp only [go_sem]) (by simp only [go_sem, or_true, true_or, ↓reduceIte]) ?_; simp only [go_sem, ↓reduceIte]; refine hK' _ _ ?_; clear hK' K'; simp only [List.nil_append, List.cons_append]
   iterate 2 (refine DOps.consU fun K' hK' => ?_; simp (disch := omega) only [go_sem, ↓reduceIte]; refine hK' _ _ ?_; clear hK' K'; simp only [List.nil_append, List.cons_append])
   refine DOps.nil (by kernel_rfl) ?_
   simp only [Post.then]
   refine hK_15 _ ?_
   clear hK_15 K_15
   refine AWp.ret ?_
   simp only [Post.then, Post.inBlock, Go.Pv.Fin, Go.Pv.FinG]
   rw [← Option.some.inj h]
   refine ⟨.tuple [.d (.agg [(.bool r6.Neg), (.imm 1 (lenc (PD.int .i64) r6.D))]), .d (.agg [(.bool r8.Neg), (.imm 1 (lenc (PD.int .i64) r8.D))])], ?_, (by first | exact True.intro | rfl), .tuple [.d (.agg [(.bool r6.Neg), (.imm 1 (lenc (PD.int .i64) r6.D))]), .d (.agg [(.bool r8.Neg), (.imm 1 (lenc (PD.int .i64) r8.D))])], ?_, ?_⟩
   ·simp only [go_sem, Tryd.results88, List.length_append, List.length_set, List.length_replicate, ↓reduceIte]
   ·simp only [go_sem, lenc_nil, List.take_length, List.length_append, List.length_set, List.length_replicate, ↓reduceIte]
   ·(first | exact leV_refl _ | (simp only [go_sem, leV, leVL, leD, leDL, lenc_nil, leD_refl, leDL_refl, lstD_le, ↓reduceIte]; done))
end Go.Pv.Tryd

namespace Go.Pv.Tryd
open Go.Proofs Go.Pv
theorem m_cocketref01_lowest_ok (n1 : Big) (d1 : Big) (r : Q) (h : m_cocketref01_lowest n1 d1 = some r) : PureFn Tryd.prog G 72 [.d (.agg [(.bool n1.Neg), (.imm 1 (lenc (PD.int .i64) n1.D))]), .d (.agg [(.bool d1.Neg), (.imm 1 (lenc (PD.int .i64) d1.D))])] (.d (.agg [(.bool r.N.Neg), (.imm 1 (lenc (PD.int .i64) r.N.D)), (.bool r.D.Neg), (.imm 1 (lenc (PD.int .i64) r.D.D))])) := by
 unfold m_cocketref01_lowest at h
 refine PureFn.intro2 Tryd.func72 (by rfl) (by rw [Tryd.ntmps72]; simp) ?_
 rw [Tryd.ntmps72]
 simp only [argEnv, reduceCtorEq, ↓reduceIte, Nat.reduceAdd, Nat.reduceMul, Nat.reduceLT, Nat.reduceLeDiff, Nat.reduceEqDiff, Nat.reduceBEq, Int.reduceToNat]
 refine AWp.seq fun K_1 hK_1 => AWp.reg ?_
 iterate 3 (refine AOps.consU fun K' hK' => ?_; simp (disch := omega) only [go_sem, ↓reduceIte]; refine hK' _ ?_; clear hK' K')
 refine AOps.nil ?_
 simp only [Post.then]
 refine hK_1 _ ?_
 clear hK_1 K_1
 obtain ⟨o_2, hj_3, h⟩ := bind_some h
 refine AWp.seqI (fun i_18 : (Big × Big) => ⟨[(2, .ptr 1000 0 0), (3, .ptr 1001 0 0), (4, .ptr 1002 0 0)], [(1000, ⟨57, 2, [.d (.agg [(.bool i_18.1.Neg), (.imm 1 (lenc (PD.int .i64) i_18.1.D))])]⟩), (1001, ⟨57, 2, [.d (.agg [(.bool i_18.2.Neg), (.imm 1 (lenc (PD.int .i64) i_18.2.D))])]⟩), (1002, ⟨59, 4, [.d (.agg [(.bool false), .nilslice, (.bool false), .nilslice])]⟩)], [], none⟩) (fun i_18 => o_2 = i_18) ?_ ?_
 ·refine AWp.seq fun K_4 hK_4 => AWp.reg ?_
  iterate 2 (refine AOps.consU fun K' hK' => ?_; simp (disch := omega) only [go_sem, ↓reduceIte]; refine hK' _ ?_; clear hK' K')
  refine AOps.nil ?_
  simp only [Post.then]
  refine hK_4 _ ?_
  clear hK_4 K_4
  refine AWp.cond (b := d1.Neg) (by rfl) (fun hb_5 => ?_) (fun hb_5 => ?_)
  ·rw [hb_5, cond_true] at hj_3
   refine AWp.seq fun K_6 hK_6 => AWp.reg ?_
   iterate 1 (refine AOps.consU fun K' hK' => ?_; simp (disch := omega) only [go_sem, ↓reduceIte]; refine hK' _ ?_; clear hK' K')
   obtain ⟨r1, hx_7, hj_3⟩ := bind_some hj_3
   refine AOps.consU fun K' hK' => ?_; simp (disch := omega) only [go_sem, ↓reduceIte]; refine OpT.call (by rfl) (by rfl) (by kernel_rfl) (m_cocketref01_Neg_ok n1 _ hx_7) (by exact ⟨rfl, trivial⟩) (by simp only [go_sem, ↓reduceIte]) ?_ (by simp only [go_sem]); simp only [go_sem, ↓reduceIte]; refine hK' _ ?_; clear hK' K'
   iterate 1 (refine AOps.consU fun K' hK' => ?_; simp (disch := omega) only [go_sem, ↓reduceIte]; refine hK' _ ?_; clear hK' K')
   refine AOps.nil ?_
   simp only [Post.then]
   refine hK_6 _ ?_
   clear hK_6 K_6
   refine AWp.reg ?_
   iterate 1 (refine AOps.consU fun K' hK' => ?_; simp (disch := omega) only [go_sem, ↓reduceIte]; refine hK' _ ?_; clear hK' K')
   obtain ⟨r2, hx_9, hj_3⟩ := bind_some hj_3
   refine AOps.consU fun K' hK' => ?_; simp (disch := omega) only [go_sem, ↓reduceIte]; refine OpT.call (by rfl) (by rfl) (by kernel_rfl) (m_cocketref01_Neg_ok d1 _ hx_9) (by exact ⟨rfl, trivial⟩) (by simp only [go_sem, ↓reduceIte]) ?_ (by simp only [go_sem]); simp only [go_sem, ↓reduceIte]; refine hK' _ ?_; clear hK' K'
   iterate 1 (refine AOps.consU fun K' hK' => ?_; simp (disch := omega) only [go_sem, ↓reduceIte]; refine hK' _ ?_; clear hK' K')
   refine AOps.nil ?_
   simp only [Post.then, Post.inBlock, ↓reduceIte, Nat.reduceEqDiff]
   exact ⟨(r1, r2), (Option.some.inj hj_3).symm, (Sub.mk ⟨rfl, rfl, rfl, trivial⟩ ⟨rfl, rfl, rfl, trivial⟩ ⟨rfl, rfl, rfl, trivial⟩ ⟨⟨trivial, trivial⟩, ⟨trivial, trivial⟩, ⟨trivial, trivial⟩, trivial⟩ ⟨rfl, trivial, rfl⟩)⟩
  ·rw [hb_5, cond_false] at hj_3
   refine AWp.skip ?_
   simp only [Post.then, Post.inBlock, ↓reduceIte, Nat.reduceEqDiff]
   exact ⟨(n1, d1), (Option.some.inj hj_3).symm, (Sub.mk ⟨rfl, rfl, rfl, trivial⟩ ⟨rfl, rfl, rfl, trivial⟩ ⟨rfl, rfl, rfl, trivial⟩ ⟨⟨trivial, trivial⟩, ⟨trivial, trivial⟩, ⟨trivial, trivial⟩, trivial⟩ ⟨rfl, trivial, rfl⟩)⟩
 ·rintro ⟨c1, c2⟩ hx_19
  rw [hx_19] at h
  try dsimp only at h
  try dsimp only
  refine AWp.seq fun K_10 hK_10 => AWp.reg ?_
  iterate 4 (refine AOps.consU fun K' hK' => ?_; simp (disch := omega) only [go_sem, ↓reduceIte]; refine hK' _ ?_; clear hK' K')
  obtain ⟨r3, hx_11, h⟩ := bind_some h
  refine AOps.consU fun K' hK' => ?_; simp (disch := omega) only [go_sem, ↓reduceIte]; refine OpT.call (by rfl) (by rfl) (by kernel_rfl) (m_cocketref01_gcdD_ok c1.D c2.D _ hx_11) (by exact ⟨rfl, rfl, trivial⟩) (by simp only [go_sem, ↓reduceIte]) ?_ (by simp only [go_sem]); simp only [go_sem, ↓reduceIte]; refine hK' _ ?_; clear hK' K'
  obtain ⟨r4, hx_12, h⟩ := bind_some h
  refine AOps.consU fun K' hK' => ?_; simp (disch := omega) only [go_sem, ↓reduceIte]; refine OpT.call (by rfl) (by rfl) (by kernel_rfl) (m_cocketref01_whole_ok false r3 _ hx_12) (by exact ⟨rfl, rfl, trivial⟩) (by simp only [go_sem, ↓reduceIte]) ?_ (by simp only [go_sem]); simp only [go_sem, ↓reduceIte]; refine hK' _ ?_; clear hK' K'
  iterate 2 (refine AOps.consU fun K' hK' => ?_; simp (disch := omega) only [go_sem, ↓reduceIte]; refine hK' _ ?_; clear hK' K')
  refine AOps.nil ?_
  simp only [Post.then]
  refine hK_10 _ ?_
  clear hK_10 K_10
  refine AWp.seq fun K_13 hK_13 => AWp.reg ?_
  iterate 2 (refine AOps.consU fun K' hK' => ?_; simp (disch := omega) only [go_sem, ↓reduceIte]; refine hK' _ ?_; clear hK' K')
  obtain ⟨r5, hx_14, h⟩ := bind_some h
  refine AOps.consU fun K' hK' => ?_; simp (disch := omega) only [go_sem, ↓reduceIte]; refine OpT.call (by rfl) (by rfl) (by kernel_rfl) (m_cocketref01_Over_ok c1 r4 _ hx_14) (by exact ⟨rfl, rfl, trivial⟩) (by simp only [go_sem, ↓reduceIte]) ?_ (by simp only [go_sem]); simp only [go_sem, ↓reduceIte]; refine hK' _ ?_; clear hK' K'
  iterate 7 (refine AOps.consU fun K' hK' => ?_; simp (disch := omega) only [go_sem, ↓reduceIte]; refine hK' _ ?_; clear hK' K')
  refine AOps.nil ?_
  simp only [Post.then]
  refine hK_13 _ ?_
  clear hK_13 K_13
  refine AWp.seq fun K_15 hK_15 => AWp.reg ?_
  iterate 2 (refine AOps.consU fun K' hK' => ?_; simp (disch := omega) only [go_sem, ↓reduceIte]; refine hK' _ ?_; clear hK' K')
  obtain ⟨r6, hx_16, h⟩ := bind_some h
  refine AOps.consU fun K' hK' => ?_; simp (disch := omega) only [go_sem, ↓reduceIte]; refine OpT.call (by rfl) (by rfl) (by kernel_rfl) (m_cocketref01_Over_ok c2 r4 _ hx_16) (by exact ⟨rfl, rfl, trivial⟩) (by simp only [go_sem, ↓reduceIte]) ?_ (by simp only [go_sem]); simp only [go_sem, ↓reduceIte]; refine hK' _ ?_; clear hK' K'
  iterate 7 (refine AOps.consU fun K' hK' => ?_; simp (disch := omega) only [go_sem, ↓reduceIte]; refine hK' _ ?_; clear hK' K')
  refine AOps.nil ?_
  simp only [Post.then]
  refine hK_15 _ ?_
  clear hK_15 K_15
  refine AWp.seq fun K_17 hK_17 => AWp.reg ?_
  iterate 4 (refine AOps.consU fun K' hK' => ?_; simp (disch := omega) only [go_sem, ↓reduceIte]; refine hK' _ ?_; clear hK' K')
  refine AOps.nil ?_
  simp only [Post.then]
  refine hK_17 _ ?_
  clear hK_17 K_17
  refine AWp.ret ?_
  simp only [Post.then, Post.inBlock, Go.Pv.Fin, Go.Pv.FinG]
  rw [← Option.some.inj h]
  refine ⟨.d (.agg [(.bool r5.1.Neg), (.imm 1 (lenc (PD.int .i64) r5.1.D)), (.bool r6.1.Neg), (.imm 1 (lenc (PD.int .i64) r6.1.D))]), ?_, (by first | exact True.intro | rfl), .d (.agg [(.bool r5.1.Neg), (.imm 1 (lenc (PD.int .i64) r5.1.D)), (.bool r6.1.Neg), (.imm 1 (lenc (PD.int .i64) r6.1.D))]), ?_, ?_⟩
  ·simp only [go_sem, Tryd.results72, List.length_append, List.length_set, List.length_replicate, ↓reduceIte]
  ·simp only [go_sem, lenc_nil, List.take_length, List.length_append, List.length_set, List.length_replicate, ↓reduceIte]
  ·(first | exact leV_refl _ | (simp only [go_sem, leV, leVL, leD, leDL, lenc_nil, leD_refl, leDL_refl, lstD_le, ↓reduceIte]; done))
end Go.Pv.Tryd

namespace Go.Pv.Tryd
open Go.Proofs Go.Pv
theorem m_cocketref01_Frac_ok (n1 : Int) (d1 : Int) (r : Q) (h : m_cocketref01_Frac n1 d1 = some r) : PureFn Tryd.prog G 41 [.d (.int .i64 n1), .d (.int .i64 d1)] (.d (.agg [(.bool r.N.Neg), (.imm 1 (lenc (PD.int .i64) r.N.D)), (.bool r.D.Neg), (.imm 1 (lenc (PD.int .i64) r.D.D))])) := by
 unfold m_cocketref01_Frac at h
 refine PureFn.intro2 Tryd.func41 (by rfl) (by rw [Tryd.ntmps41]; simp) ?_
 rw [Tryd.ntmps41]
 simp only [argEnv, reduceCtorEq, ↓reduceIte, Nat.reduceAdd, Nat.reduceMul, Nat.reduceLT, Nat.reduceLeDiff, Nat.reduceEqDiff, Nat.reduceBEq, Int.reduceToNat]
 refine AWp.seq fun K_1 hK_1 => AWp.reg ?_
 iterate 1 (refine AOps.consU fun K' hK' => ?_; simp (disch := omega) only [go_sem, ↓reduceIte]; refine hK' _ ?_; clear hK' K')
 refine AOps.nil ?_
 simp only [Post.then]
 refine hK_1 _ ?_
 clear hK_1 K_1
 refine AWp.seq fun K_2 hK_2 => AWp.reg ?_
 iterate 1 (refine AOps.consU fun K' hK' => ?_; simp (disch := omega) only [go_sem, ↓reduceIte]; refine hK' _ ?_; clear hK' K')
 obtain ⟨r1, hx_3, h⟩ := bind_some h
 refine AOps.consU fun K' hK' => ?_; simp (disch := omega) only [go_sem, ↓reduceIte]; refine OpT.call (by rfl) (by rfl) (by kernel_rfl) (m_cocketref01_Of_ok n1 _ hx_3) (by exact ⟨rfl, trivial⟩) (by simp only [go_sem, ↓reduceIte]) ?_ (by simp only [go_sem]); simp only [go_sem, ↓reduceIte]; refine hK' _ ?_; clear hK' K'
 iterate 1 (refine AOps.consU fun K' hK' => ?_; simp (disch := omega) only [go_sem, ↓reduceIte]; refine hK' _ ?_; clear hK' K')
 obtain ⟨r2, hx_4, h⟩ := bind_some h
 refine AOps.consU fun K' hK' => ?_; simp (disch := omega) only [go_sem, ↓reduceIte]; refine OpT.call (by rfl) (by rfl) (by kernel_rfl) (m_cocketref01_Of_ok d1 _ hx_4) (by exact ⟨rfl, trivial⟩) (by simp only [go_sem, ↓reduceIte]) ?_ (by simp only [go_sem]); simp only [go_sem, ↓reduceIte]; refine hK' _ ?_; clear hK' K'
 obtain ⟨r3, hx_5, h⟩ := bind_some h
 refine AOps.consU fun K' hK' => ?_; simp (disch := omega) only [go_sem, ↓reduceIte]; refine OpT.call (by rfl) (by rfl) (by kernel_rfl) (m_cocketref01_lowest_ok r1 r2 _ hx_5) (by exact ⟨rfl, rfl, trivial⟩) (by simp only [go_sem, ↓reduceIte]) ?_ (by simp only [go_sem]); simp only [go_sem, ↓reduceIte]; refine hK' _ ?_; clear hK' K'
 iterate 1 (refine AOps.consU fun K' hK' => ?_; simp (disch := omega) only [go_sem, ↓reduceIte]; refine hK' _ ?_; clear hK' K')
 refine AOps.nil ?_
 simp only [Post.then]
 refine hK_2 _ ?_
 clear hK_2 K_2
 refine AWp.ret ?_
 simp only [Post.then, Post.inBlock, Go.Pv.Fin, Go.Pv.FinG]
 rw [← Option.some.inj h]
 refine ⟨.d (.agg [(.bool r3.N.Neg), (.imm 1 (lenc (PD.int .i64) r3.N.D)), (.bool r3.D.Neg), (.imm 1 (lenc (PD.int .i64) r3.D.D))]), ?_, (by first | exact True.intro | rfl), .d (.agg [(.bool r3.N.Neg), (.imm 1 (lenc (PD.int .i64) r3.N.D)), (.bool r3.D.Neg), (.imm 1 (lenc (PD.int .i64) r3.D.D))]), ?_, ?_⟩
 ·simp only [go_sem, Tryd.results41, List.length_append, List.length_set, List.length_replicate, ↓reduceIte]
 ·simp only [go_sem, lenc_nil, List.take_length, List.length_append, List.length_set, List.length_replicate, ↓reduceIte]
 ·(first | exact leV_refl _ | (simp only [go_sem, leV, leVL, leD, leDL, lenc_nil, leD_refl, leDL_refl, lstD_le, ↓reduceIte]; done))
end Go.Pv.Tryd

namespace Go.Pv.Tryd
open Go.Proofs Go.Pv
theorem m_cocketref01_rate_ok (o1 : Offer) (r : Q) (h : m_cocketref01_rate o1 = some r) : PureFn Tryd.prog G 63 [.d (.agg [(.int .i64 o1.From), (.int .i64 o1.To), (.int .i64 o1.Num), (.int .i64 o1.Den)])] (.d (.agg [(.bool r.N.Neg), (.imm 1 (lenc (PD.int .i64) r.N.D)), (.bool r.D.Neg), (.imm 1 (lenc (PD.int .i64) r.D.D))])) := by
 unfold m_cocketref01_rate at h
 refine PureFn.intro2 Tryd.func63 (by rfl) (by rw [Tryd.ntmps63]; simp) ?_
 rw [Tryd.ntmps63]
 simp only [argEnv, reduceCtorEq, ↓reduceIte, Nat.reduceAdd, Nat.reduceMul, Nat.reduceLT, Nat.reduceLeDiff, Nat.reduceEqDiff, Nat.reduceBEq, Int.reduceToNat]
 refine AWp.seq fun K_1 hK_1 => AWp.reg ?_
 iterate 2 (refine AOps.consU fun K' hK' => ?_; simp (disch := omega) only [go_sem, ↓reduceIte]; refine hK' _ ?_; clear hK' K')
 refine AOps.nil ?_
 simp only [Post.then]
 refine hK_1 _ ?_
 clear hK_1 K_1
 refine AWp.seq fun K_2 hK_2 => AWp.reg ?_
 iterate 4 (refine AOps.consU fun K' hK' => ?_; simp (disch := omega) only [go_sem, ↓reduceIte]; refine hK' _ ?_; clear hK' K')
 obtain ⟨r1, hx_3, h⟩ := bind_some h
 refine AOps.consU fun K' hK' => ?_; simp (disch := omega) only [go_sem, ↓reduceIte]; refine OpT.call (by rfl) (by rfl) (by kernel_rfl) (m_cocketref01_Frac_ok o1.Num o1.Den _ hx_3) (by exact ⟨rfl, rfl, trivial⟩) (by simp only [go_sem, ↓reduceIte]) ?_ (by simp only [go_sem]); simp only [go_sem, ↓reduceIte]; refine hK' _ ?_; clear hK' K'
 iterate 1 (refine AOps.consU fun K' hK' => ?_; simp (disch := omega) only [go_sem, ↓reduceIte]; refine hK' _ ?_; clear hK' K')
 refine AOps.nil ?_
 simp only [Post.then]
 refine hK_2 _ ?_
 clear hK_2 K_2
 refine AWp.ret ?_
 simp only [Post.then, Post.inBlock, Go.Pv.Fin, Go.Pv.FinG]
 rw [← Option.some.inj h]
 refine ⟨.d (.agg [(.bool r1.N.Neg), (.imm 1 (lenc (PD.int .i64) r1.N.D)), (.bool r1.D.Neg), (.imm 1 (lenc (PD.int .i64) r1.D.D))]), ?_, (by first | exact True.intro | rfl), .d (.agg [(.bool r1.N.Neg), (.imm 1 (lenc (PD.int .i64) r1.N.D)), (.bool r1.D.Neg), (.imm 1 (lenc (PD.int .i64) r1.D.D))]), ?_, ?_⟩
 ·simp only [go_sem, Tryd.results63, List.length_append, List.length_set, List.length_replicate, ↓reduceIte]
 ·simp only [go_sem, lenc_nil, List.take_length, List.length_append, List.length_set, List.length_replicate, ↓reduceIte]
 ·(first | exact leV_refl _ | (simp only [go_sem, leV, leVL, leD, leDL, lenc_nil, leD_refl, leDL_refl, lstD_le, ↓reduceIte]; done))
end Go.Pv.Tryd

namespace Go.Pv.Tryd
open Go.Proofs Go.Pv
theorem m_cocketref01_Times_ok (a1 : Big) (b1 : Big) (r : Big) (h : m_cocketref01_Times a1 b1 = some r) : PureFn Tryd.prog G 71 [.d (.agg [(.bool a1.Neg), (.imm 1 (lenc (PD.int .i64) a1.D))]), .d (.agg [(.bool b1.Neg), (.imm 1 (lenc (PD.int .i64) b1.D))])] (.d (.agg [(.bool r.Neg), (.imm 1 (lenc (PD.int .i64) r.D))])) := by
 unfold m_cocketref01_Times at h
 refine PureFn.intro2 Tryd.func71 (by rfl) (by rw [Tryd.ntmps71]; simp) ?_
 rw [Tryd.ntmps71]
 simp only [argEnv, reduceCtorEq, ↓reduceIte, Nat.reduceAdd, Nat.reduceMul, Nat.reduceLT, Nat.reduceLeDiff, Nat.reduceEqDiff, Nat.reduceBEq, Int.reduceToNat]
 refine AWp.seq fun K_1 hK_1 => AWp.reg ?_
 iterate 3 (refine AOps.consU fun K' hK' => ?_; simp (disch := omega) only [go_sem, ↓reduceIte]; refine hK' _ ?_; clear hK' K')
 refine AOps.nil ?_
 simp only [Post.then]
 refine hK_1 _ ?_
 clear hK_1 K_1
 refine AWp.seq fun K_2 hK_2 => AWp.draw mo [] (by trivial) ?_
 iterate 9 (refine DOps.consU fun K' hK' => ?_; simp (disch := omega) only [go_sem, ↓reduceIte]; refine hK' _ _ ?_; clear hK' K'; simp only [List.nil_append, List.cons_append])
 obtain ⟨r1, hx_3, h⟩ := bind_some h
 refine DOps.consC fun K' hK' => ?_; simp (disch := omega) only [go_sem, ↓reduceIte]; refine OpX.call (by rfl) (by rfl) (by kernel_rfl) (m_cocketref01_mulD_ok a1.D b1.D _ hx_3) (by exact ⟨rfl, rfl, trivial⟩) (by simp only [go_sem, ↓reduceIte]) (by simp only [go_sem]) (by simp only [go_sem, or_true, true_or, ↓reduceIte]) ?_; simp only [go_sem, ↓reduceIte]; refine hK' _ _ ?_; clear hK' K'; simp only [List.nil_append, List.cons_append]
 obtain ⟨r2, hx_4, h⟩ := bind_some h
 refine DOps.consC fun K' hK' => ?_; simp (disch := omega) only [go_sem, ↓reduceIte]; refine OpX.call (by rfl) (by rfl) (by kernel_rfl) (m_cocketref01_whole_ok (!(a1.Neg == b1.Neg)) r1 _ hx_4) (by exact ⟨rfl, rfl, trivial⟩) (by simp only [go_sem, ↓reduceIte]) (by simp only [go_sem]) (by simp only [go_sem, or_true, true_or, ↓reduceIte]) ?_; simp only [go_sem, ↓reduceIte]; refine hK' _ _ ?_; clear hK' K'; simp only [List.nil_append, List.cons_append]
 iterate 1 (refine DOps.consU fun K' hK' => ?_; simp (disch := omega) only [go_sem, ↓reduceIte]; refine hK' _ _ ?_; clear hK' K'; simp only [List.nil_append, List.cons_append])
 refine DOps.nil (by kernel_rfl) ?_
 simp only [Post.then]
 refine hK_2 _ ?_
 clear hK_2 K_2
 refine AWp.ret ?_
 simp only [Post.then, Post.inBlock, Go.Pv.Fin, Go.Pv.FinG]
 rw [← Option.some.inj h]
 refine ⟨.d (.agg [(.bool r2.Neg), (.imm 1 (lenc (PD.int .i64) r2.D))]), ?_, (by first | exact True.intro | rfl), .d (.agg [(.bool r2.Neg), (.imm 1 (lenc (PD.int .i64) r2.D))]), ?_, ?_⟩
 ·simp only [go_sem, Tryd.results71, List.length_append, List.length_set, List.length_replicate, ↓reduceIte]
 ·simp only [go_sem, lenc_nil, List.take_length, List.length_append, List.length_set, List.length_replicate, ↓reduceIte]
 ·(first | exact leV_refl _ | (simp only [go_sem, leV, leVL, leD, leDL, lenc_nil, leD_refl, leDL_refl, lstD_le, ↓reduceIte]; done))
end Go.Pv.Tryd

namespace Go.Pv.Tryd
open Go.Proofs Go.Pv
theorem m_cocketref01_Mul_ok (a1 : Q) (b1 : Q) (r : Q) (h : m_cocketref01_Mul a1 b1 = some r) : PureFn Tryd.prog G 43 [.d (.agg [(.bool a1.N.Neg), (.imm 1 (lenc (PD.int .i64) a1.N.D)), (.bool a1.D.Neg), (.imm 1 (lenc (PD.int .i64) a1.D.D))]), .d (.agg [(.bool b1.N.Neg), (.imm 1 (lenc (PD.int .i64) b1.N.D)), (.bool b1.D.Neg), (.imm 1 (lenc (PD.int .i64) b1.D.D))])] (.d (.agg [(.bool r.N.Neg), (.imm 1 (lenc (PD.int .i64) r.N.D)), (.bool r.D.Neg), (.imm 1 (lenc (PD.int .i64) r.D.D))])) := by
 unfold m_cocketref01_Mul at h
 refine PureFn.intro2 Tryd.func43 (by rfl) (by rw [Tryd.ntmps43]; simp) ?_
 rw [Tryd.ntmps43]
 simp only [argEnv, reduceCtorEq, ↓reduceIte, Nat.reduceAdd, Nat.reduceMul, Nat.reduceLT, Nat.reduceLeDiff, Nat.reduceEqDiff, Nat.reduceBEq, Int.reduceToNat]
 refine AWp.seq fun K_1 hK_1 => AWp.reg ?_
 iterate 3 (refine AOps.consU fun K' hK' => ?_; simp (disch := omega) only [go_sem, ↓reduceIte]; refine hK' _ ?_; clear hK' K')
 refine AOps.nil ?_
 simp only [Post.then]
 refine hK_1 _ ?_
 clear hK_1 K_1
 refine AWp.seq fun K_2 hK_2 => AWp.draw mo [] (by trivial) ?_
 iterate 4 (refine DOps.consU fun K' hK' => ?_; simp (disch := omega) only [go_sem, ↓reduceIte]; refine hK' _ _ ?_; clear hK' K'; simp only [List.nil_append, List.cons_append])
 obtain ⟨r1, hx_3, h⟩ := bind_some h
 refine DOps.consC fun K' hK' => ?_; simp (disch := omega) only [go_sem, ↓reduceIte]; refine OpX.call (by rfl) (by rfl) (by kernel_rfl) (m_cocketref01_Times_ok a1.N b1.N _ hx_3) (by exact ⟨rfl, rfl, trivial⟩) (by simp only [go_sem, ↓reduceIte]) (by simp only [go_sem]) (by simp only [go_sem, or_true, true_or, ↓reduceIte]) ?_; simp only [go_sem, ↓reduceIte]; refine hK' _ _ ?_; clear hK' K'; simp only [List.nil_append, List.cons_append]
 iterate 4 (refine DOps.consU fun K' hK' => ?_; simp (disch := omega) only [go_sem, ↓reduceIte]; refine hK' _ _ ?_; clear hK' K'; simp only [List.nil_append, List.cons_append])
 obtain ⟨r2, hx_4, h⟩ := bind_some h
 refine DOps.consC fun K' hK' => ?_; simp (disch := omega) only [go_sem, ↓reduceIte]; refine OpX.call (by rfl) (by rfl) (by kernel_rfl) (m_cocketref01_Times_ok a1.D b1.D _ hx_4) (by exact ⟨rfl, rfl, trivial⟩) (by simp only [go_sem, ↓reduceIte]) (by simp only [go_sem]) (by simp only [go_sem, or_true, true_or, ↓reduceIte]) ?_; simp only [go_sem, ↓reduceIte]; refine hK' _ _ ?_; clear hK' K'; simp only [List.nil_append, List.cons_append]
 obtain ⟨r3, hx_5, h⟩ := bind_some h
 refine DOps.consC fun K' hK' => ?_; simp (disch := omega) only [go_sem, ↓reduceIte]; refine OpX.call (by rfl) (by rfl) (by kernel_rfl) (m_cocketref01_lowest_ok r1 r2 _ hx_5) (by exact ⟨rfl, rfl, trivial⟩) (by simp only [go_sem, ↓reduceIte]) (by simp only [go_sem]) (by simp only [go_sem, or_true, true_or, ↓reduceIte]) ?_; simp only [go_sem, ↓reduceIte]; refine hK' _ _ ?_; clear hK' K'; simp only [List.nil_append, List.cons_append]
 iterate 1 (refine DOps.consU fun K' hK' => ?_; simp (disch := omega) only [go_sem, ↓reduceIte]; refine hK' _ _ ?_; clear hK' K'; simp only [List.nil_append, List.cons_append])
 refine DOps.nil (by kernel_rfl) ?_
 simp only [Post.then]
 refine hK_2 _ ?_
 clear hK_2 K_2
 refine AWp.ret ?_
 simp only [Post.then, Post.inBlock, Go.Pv.Fin, Go.Pv.FinG]
 rw [← Option.some.inj h]
 refine ⟨.d (.agg [(.bool r3.N.Neg), (.imm 1 (lenc (PD.int .i64) r3.N.D)), (.bool r3.D.Neg), (.imm 1 (lenc (PD.int .i64) r3.D.D))]), ?_, (by first | exact True.intro | rfl), .d (.agg [(.bool r3.N.Neg), (.imm 1 (lenc (PD.int .i64) r3.N.D)), (.bool r3.D.Neg), (.imm 1 (lenc (PD.int .i64) r3.D.D))]), ?_, ?_⟩
 ·simp only [go_sem, Tryd.results43, List.length_append, List.length_set, List.length_replicate, ↓reduceIte]
 ·simp only [go_sem, lenc_nil, List.take_length, List.length_append, List.length_set, List.length_replicate, ↓reduceIte]
 ·(first | exact leV_refl _ | (simp only [go_sem, leV, leVL, leD, leDL, lenc_nil, leD_refl, leDL_refl, lstD_le, ↓reduceIte]; done))
end Go.Pv.Tryd

namespace Go.Pv.Tryd
open Go.Proofs Go.Pv
theorem m_cocketref01_Compare_ok (a1 : Big) (b1 : Big) (r : Int) (h : m_cocketref01_Compare a1 b1 = some r) : PureFn Tryd.prog G 70 [.d (.agg [(.bool a1.Neg), (.imm 1 (lenc (PD.int .i64) a1.D))]), .d (.agg [(.bool b1.Neg), (.imm 1 (lenc (PD.int .i64) b1.D))])] (.d (.int .i64 r)) := by
 unfold m_cocketref01_Compare at h
 refine PureFn.intro2 Tryd.func70 (by rfl) (by rw [Tryd.ntmps70]; simp) ?_
 rw [Tryd.ntmps70]
 simp only [argEnv, reduceCtorEq, ↓reduceIte, Nat.reduceAdd, Nat.reduceMul, Nat.reduceLT, Nat.reduceLeDiff, Nat.reduceEqDiff, Nat.reduceBEq, Int.reduceToNat]
 refine AWp.seq fun K_1 hK_1 => AWp.reg ?_
 iterate 3 (refine AOps.consU fun K' hK' => ?_; simp (disch := omega) only [go_sem, ↓reduceIte]; refine hK' _ ?_; clear hK' K')
 refine AOps.nil ?_
 simp only [Post.then]
 refine hK_1 _ ?_
 clear hK_1 K_1
 refine AWp.seq fun K_2 hK_2 => ?_
 refine AWp.seq fun K_3 hK_3 => AWp.reg ?_
 iterate 5 (refine AOps.consU fun K' hK' => ?_; simp (disch := omega) only [go_sem, ↓reduceIte]; refine hK' _ ?_; clear hK' K')
 refine AOps.nil ?_
 simp only [Post.then]
 refine hK_3 _ ?_
 clear hK_3 K_3
 refine AWp.cond (b := (!(a1.Neg == b1.Neg))) (by rfl) (fun hb_4 => ?_) (fun hb_4 => ?_)
 ·rw [hb_4, cond_true] at h
  refine AWp.seq fun K_5 hK_5 => ?_
  refine AWp.seq fun K_6 hK_6 => AWp.reg ?_
  iterate 2 (refine AOps.consU fun K' hK' => ?_; simp (disch := omega) only [go_sem, ↓reduceIte]; refine hK' _ ?_; clear hK' K')
  refine AOps.nil ?_
  simp only [Post.then]
  refine hK_6 _ ?_
  clear hK_6 K_6
  refine AWp.cond (b := a1.Neg) (by rfl) (fun hb_7 => ?_) (fun hb_7 => ?_)
  ·rw [hb_7, cond_true] at h
   refine AWp.seq fun K_8 hK_8 => AWp.reg ?_
   iterate 1 (refine AOps.consU fun K' hK' => ?_; simp (disch := omega) only [go_sem, ↓reduceIte]; refine hK' _ ?_; clear hK' K')
   refine AOps.nil ?_
   simp only [Post.then]
   refine hK_8 _ ?_
   clear hK_8 K_8
   refine AWp.ret ?_
   simp only [Post.then, Post.inBlock, Go.Pv.Fin, Go.Pv.FinG]
   rw [← Option.some.inj h]
   refine ⟨.d (.int .i64 (-1)), ?_, (by first | exact True.intro | rfl), .d (.int .i64 (-1)), ?_, ?_⟩
   ·simp only [go_sem, Tryd.results70, List.length_append, List.length_set, List.length_replicate, ↓reduceIte]
   ·simp only [go_sem, lenc_nil, List.take_length, List.length_append, List.length_set, List.length_replicate, ↓reduceIte]
   ·(first | exact leV_refl _ | (simp only [go_sem, leV, leVL, leD, leDL, lenc_nil, leD_refl, leDL_refl, lstD_le, ↓reduceIte]; done))
  ·rw [hb_7, cond_false] at h
   refine AWp.skip ?_
   simp only [Post.then, Post.inBlock, ↓reduceIte, Nat.reduceEqDiff]
   refine hK_5 _ ?_
   clear hK_5 K_5
   refine AWp.seq fun K_9 hK_9 => AWp.reg ?_
   iterate 1 (refine AOps.consU fun K' hK' => ?_; simp (disch := omega) only [go_sem, ↓reduceIte]; refine hK' _ ?_; clear hK' K')
   refine AOps.nil ?_
   simp only [Post.then]
   refine hK_9 _ ?_
   clear hK_9 K_9
   refine AWp.ret ?_
   simp only [Post.then, Post.inBlock, Go.Pv.Fin, Go.Pv.FinG]
   rw [← Option.some.inj h]
   refine ⟨.d (.int .i64 1), ?_, (by first | exact True.intro | rfl), .d (.int .i64 1), ?_, ?_⟩
   ·simp only [go_sem, Tryd.results70, List.length_append, List.length_set, List.length_replicate, ↓reduceIte]
   ·simp only [go_sem, lenc_nil, List.take_length, List.length_append, List.length_set, List.length_replicate, ↓reduceIte]
   ·(first | exact leV_refl _ | (simp only [go_sem, leV, leVL, leD, leDL, lenc_nil, leD_refl, leDL_refl, lstD_le, ↓reduceIte]; done))
 ·rw [hb_4, cond_false] at h
  refine AWp.skip ?_
  simp only [Post.then, Post.inBlock, ↓reduceIte, Nat.reduceEqDiff]
  refine hK_2 _ ?_
  clear hK_2 K_2
  refine AWp.seq fun K_10 hK_10 => AWp.reg ?_
  iterate 4 (refine AOps.consU fun K' hK' => ?_; simp (disch := omega) only [go_sem, ↓reduceIte]; refine hK' _ ?_; clear hK' K')
  obtain ⟨r1, hx_11, h⟩ := bind_some h
  refine AOps.consU fun K' hK' => ?_; simp (disch := omega) only [go_sem, ↓reduceIte]; refine OpT.call (by rfl) (by rfl) (by kernel_rfl) (m_cocketref01_cmpD_ok a1.D b1.D _ hx_11) (by exact ⟨rfl, rfl, trivial⟩) (by simp only [go_sem, ↓reduceIte]) ?_ (by simp only [go_sem]); simp only [go_sem, ↓reduceIte]; refine hK' _ ?_; clear hK' K'
  iterate 1 (refine AOps.consU fun K' hK' => ?_; simp (disch := omega) only [go_sem, ↓reduceIte]; refine hK' _ ?_; clear hK' K')
  refine AOps.nil ?_
  simp only [Post.then]
  refine hK_10 _ ?_
  clear hK_10 K_10
  refine AWp.seq fun K_12 hK_12 => ?_
  refine AWp.seq fun K_13 hK_13 => AWp.reg ?_
  iterate 2 (refine AOps.consU fun K' hK' => ?_; simp (disch := omega) only [go_sem, ↓reduceIte]; refine hK' _ ?_; clear hK' K')
  refine AOps.nil ?_
  simp only [Post.then]
  refine hK_13 _ ?_
  clear hK_13 K_13
  refine AWp.cond (b := a1.Neg) (by rfl) (fun hb_14 => ?_) (fun hb_14 => ?_)
  ·rw [hb_14, cond_true] at h
   refine AWp.seq fun K_15 hK_15 => AWp.reg ?_
   iterate 3 (refine AOps.consU fun K' hK' => ?_; simp (disch := omega) only [go_sem, ↓reduceIte]; refine hK' _ ?_; clear hK' K')
   refine AOps.nil ?_
   simp only [Post.then]
   refine hK_15 _ ?_
   clear hK_15 K_15
   refine AWp.ret ?_
   simp only [Post.then, Post.inBlock, Go.Pv.Fin, Go.Pv.FinG]
   rw [← Option.some.inj h]
   refine ⟨.d (.int .i64 (IntKind.i64.wrap (0 - r1))), ?_, (by first | exact True.intro | rfl), .d (.int .i64 (IntKind.i64.wrap (0 - r1))), ?_, ?_⟩
   ·simp only [go_sem, Tryd.results70, List.length_append, List.length_set, List.length_replicate, ↓reduceIte]
   ·simp only [go_sem, lenc_nil, List.take_length, List.length_append, List.length_set, List.length_replicate, ↓reduceIte]
   ·(first | exact leV_refl _ | (simp only [go_sem, leV, leVL, leD, leDL, lenc_nil, leD_refl, leDL_refl, lstD_le, ↓reduceIte]; done))
  ·rw [hb_14, cond_false] at h
   refine AWp.skip ?_
   simp only [Post.then, Post.inBlock, ↓reduceIte, Nat.reduceEqDiff]
   refine hK_12 _ ?_
   clear hK_12 K_12
   refine AWp.seq fun K_16 hK_16 => AWp.reg ?_
   iterate 2 (refine AOps.consU fun K' hK' => ?_; simp (disch := omega) only [go_sem, ↓reduceIte]; refine hK' _ ?_; clear hK' K')
   refine AOps.nil ?_
   simp only [Post.then]
   refine hK_16 _ ?_
   clear hK_16 K_16
   refine AWp.ret ?_
   simp only [Post.then, Post.inBlock, Go.Pv.Fin, Go.Pv.FinG]
   rw [← Option.some.inj h]
   refine ⟨.d (.int .i64 r1), ?_, (by first | exact True.intro | rfl), .d (.int .i64 r1), ?_, ?_⟩
   ·simp only [go_sem, Tryd.results70, List.length_append, List.length_set, List.length_replicate, ↓reduceIte]
   ·simp only [go_sem, lenc_nil, List.take_length, List.length_append, List.length_set, List.length_replicate, ↓reduceIte]
   ·(first | exact leV_refl _ | (simp only [go_sem, leV, leVL, leD, leDL, lenc_nil, leD_refl, leDL_refl, lstD_le, ↓reduceIte]; done))
end Go.Pv.Tryd

namespace Go.Pv.Tryd
open Go.Proofs Go.Pv
theorem m_cocketref01_Cmp_ok (a1 : Q) (b1 : Q) (r : Int) (h : m_cocketref01_Cmp a1 b1 = some r) : PureFn Tryd.prog G 38 [.d (.agg [(.bool a1.N.Neg), (.imm 1 (lenc (PD.int .i64) a1.N.D)), (.bool a1.D.Neg), (.imm 1 (lenc (PD.int .i64) a1.D.D))]), .d (.agg [(.bool b1.N.Neg), (.imm 1 (lenc (PD.int .i64) b1.N.D)), (.bool b1.D.Neg), (.imm 1 (lenc (PD.int .i64) b1.D.D))])] (.d (.int .i64 r)) := by
 unfold m_cocketref01_Cmp at h
 refine PureFn.intro2 Tryd.func38 (by rfl) (by rw [Tryd.ntmps38]; simp) ?_
 rw [Tryd.ntmps38]
 simp only [argEnv, reduceCtorEq, ↓reduceIte, Nat.reduceAdd, Nat.reduceMul, Nat.reduceLT, Nat.reduceLeDiff, Nat.reduceEqDiff, Nat.reduceBEq, Int.reduceToNat]
 refine AWp.seq fun K_1 hK_1 => AWp.reg ?_
 iterate 3 (refine AOps.consU fun K' hK' => ?_; simp (disch := omega) only [go_sem, ↓reduceIte]; refine hK' _ ?_; clear hK' K')
 refine AOps.nil ?_
 simp only [Post.then]
 refine hK_1 _ ?_
 clear hK_1 K_1
 refine AWp.seq fun K_2 hK_2 => AWp.draw mo [] (by trivial) ?_
 iterate 4 (refine DOps.consU fun K' hK' => ?_; simp (disch := omega) only [go_sem, ↓reduceIte]; refine hK' _ _ ?_; clear hK' K'; simp only [List.nil_append, List.cons_append])
 obtain ⟨r1, hx_3, h⟩ := bind_some h
 refine DOps.consC fun K' hK' => ?_; simp (disch := omega) only [go_sem, ↓reduceIte]; refine OpX.call (by rfl) (by rfl) (by kernel_rfl) (m_cocketref01_Times_ok a1.N b1.D _ hx_3) (by exact ⟨rfl, rfl, trivial⟩) (by simp only [go_sem, ↓reduceIte]) (by simp only [go_sem]) (by simp only [go_sem, or_true, true_or, ↓reduceIte]) ?_; simp only [go_sem, ↓reduceIte]; refine hK' _ _ ?_; clear hK' K'; simp only [List.nil_append, List.cons_append]
 iterate 4 (refine DOps.consU fun K' hK' => ?_; simp (disch := omega) only [go_sem, ↓reduceIte]; refine hK' _ _ ?_; clear hK' K'; simp only [List.nil_append, List.cons_append])
 obtain ⟨r2, hx_4, h⟩ := bind_some h
 refine DOps.consC fun K' hK' => ?_; simp (disch := omega) only [go_sem, ↓reduceIte]; refine OpX.call (by rfl) (by rfl) (by kernel_rfl) (m_cocketref01_Times_ok b1.N a1.D _ hx_4) (by exact ⟨rfl, rfl, trivial⟩) (by simp only [go_sem, ↓reduceIte]) (by simp only [go_sem]) (by simp only [go_sem, or_true, true_or, ↓reduceIte]) ?_; simp only [go_sem, ↓reduceIte]; refine hK' _ _ ?_; clear hK' K'; simp only [List.nil_append, List.cons_append]
 obtain ⟨r3, hx_5, h⟩ := bind_some h
 refine DOps.consC fun K' hK' => ?_; simp (disch := omega) only [go_sem, ↓reduceIte]; refine OpX.call (by rfl) (by rfl) (by kernel_rfl) (m_cocketref01_Compare_ok r1 r2 _ hx_5) (by exact ⟨rfl, rfl, trivial⟩) (by simp only [go_sem, ↓reduceIte]) (by simp only [go_sem]) (by simp only [go_sem, or_true, true_or, ↓reduceIte]) ?_; simp only [go_sem, ↓reduceIte]; refine hK' _ _ ?_; clear hK' K'; simp only [List.nil_append, List.cons_append]
 iterate 1 (refine DOps.consU fun K' hK' => ?_; simp (disch := omega) only [go_sem, ↓reduceIte]; refine hK' _ _ ?_; clear hK' K'; simp only [List.nil_append, List.cons_append])
 refine DOps.nil (by kernel_rfl) ?_
 simp only [Post.then]
 refine hK_2 _ ?_
 clear hK_2 K_2
 refine AWp.ret ?_
 simp only [Post.then, Post.inBlock, Go.Pv.Fin, Go.Pv.FinG]
 rw [← Option.some.inj h]
 refine ⟨.d (.int .i64 r3), ?_, (by first | exact True.intro | rfl), .d (.int .i64 r3), ?_, ?_⟩
 ·simp only [go_sem, Tryd.results38, List.length_append, List.length_set, List.length_replicate, ↓reduceIte]
 ·simp only [go_sem, lenc_nil, List.take_length, List.length_append, List.length_set, List.length_replicate, ↓reduceIte]
 ·(first | exact leV_refl _ | (simp only [go_sem, leV, leVL, leD, leDL, lenc_nil, leD_refl, leDL_refl, lstD_le, ↓reduceIte]; done))
end Go.Pv.Tryd

namespace Go.Pv.Tryd
open Go.Proofs Go.Pv
theorem m_cocketref01_better_ok (r1 : Reach) (q1 : Q) (r : Bool) (h : m_cocketref01_better r1 q1 = some r) : PureFn Tryd.prog G 58 [.d (.agg [(.bool r1.Is), (.bool r1.Rate.N.Neg), (.imm 1 (lenc (PD.int .i64) r1.Rate.N.D)), (.bool r1.Rate.D.Neg), (.imm 1 (lenc (PD.int .i64) r1.Rate.D.D))]), .d (.agg [(.bool q1.N.Neg), (.imm 1 (lenc (PD.int .i64) q1.N.D)), (.bool q1.D.Neg), (.imm 1 (lenc (PD.int .i64) q1.D.D))])] (.d (.bool r)) := by
 unfold m_cocketref01_better at h
 refine PureFn.intro2 Tryd.func58 (by rfl) (by rw [Tryd.ntmps58]; simp) ?_
 rw [Tryd.ntmps58]
 simp only [argEnv, reduceCtorEq, ↓reduceIte, Nat.reduceAdd, Nat.reduceMul, Nat.reduceLT, Nat.reduceLeDiff, Nat.reduceEqDiff, Nat.reduceBEq, Int.reduceToNat]
 refine AWp.seq fun K_1 hK_1 => AWp.reg ?_
 iterate 3 (refine AOps.consU fun K' hK' => ?_; simp (disch := omega) only [go_sem, ↓reduceIte]; refine hK' _ ?_; clear hK' K')
 refine AOps.nil ?_
 simp only [Post.then]
 refine hK_1 _ ?_
 clear hK_1 K_1
 refine AWp.seq fun K_2 hK_2 => AWp.reg ?_
 iterate 4 (refine AOps.consU fun K' hK' => ?_; simp (disch := omega) only [go_sem, ↓reduceIte]; refine hK' _ ?_; clear hK' K')
 obtain ⟨b1, hc_3, h⟩ := bind_some h
 refine AOps.cut 6 (⟨[(4, .d (.bool false)), (14, .d (.bool b1))], [], [], none⟩) ?_ ?_
 ·simp only [List.take_succ_cons, List.take_zero]
  rcases Bool.eq_false_or_eq_true (!r1.Is) with hg_5 | hg_5
  ·rw [hg_5]
   rw [hg_5, cond_true] at hc_3
   iterate 6 (refine AOps.consU fun K' hK' => ?_; simp (disch := omega) only [go_sem, ↓reduceIte]; refine hK' _ ?_; clear hK' K')
   refine AOps.nil ?_
   have hc_3 := Option.some.inj hc_3
   subst hc_3
   exact (Sub.mk ⟨rfl, rfl, trivial⟩ trivial ⟨trivial, trivial, trivial⟩ trivial ⟨rfl, trivial, rfl⟩)
  ·rw [hg_5]
   rw [hg_5, cond_false] at hc_3
   iterate 3 (refine AOps.consU fun K' hK' => ?_; simp (disch := omega) only [go_sem, ↓reduceIte]; refine hK' _ ?_; clear hK' K')
   obtain ⟨r2, hx_4, hc_3⟩ := bind_some hc_3
   refine AOps.consU fun K' hK' => ?_; simp (disch := omega) only [go_sem, ↓reduceIte]; refine OpT.call (by rfl) (by rfl) (by kernel_rfl) (m_cocketref01_Cmp_ok q1 r1.Rate _ hx_4) (by exact ⟨rfl, rfl, trivial⟩) (by simp only [go_sem, ↓reduceIte]) ?_ (by simp only [go_sem]); simp only [go_sem, ↓reduceIte]; refine hK' _ ?_; clear hK' K'
   iterate 2 (refine AOps.consU fun K' hK' => ?_; simp (disch := omega) only [go_sem, ↓reduceIte]; refine hK' _ ?_; clear hK' K')
   refine AOps.nil ?_
   have hc_3 := Option.some.inj hc_3
   subst hc_3
   exact (Sub.mk ⟨rfl, rfl, trivial⟩ trivial ⟨trivial, trivial, trivial⟩ trivial ⟨rfl, trivial, rfl⟩)
 simp only [List.drop_succ_cons, List.drop_zero]
 iterate 1 (refine AOps.consU fun K' hK' => ?_; simp (disch := omega) only [go_sem, ↓reduceIte]; refine hK' _ ?_; clear hK' K')
 refine AOps.nil ?_
 simp only [Post.then]
 refine hK_2 _ ?_
 clear hK_2 K_2
 refine AWp.ret ?_
 simp only [Post.then, Post.inBlock, Go.Pv.Fin, Go.Pv.FinG]
 rw [← Option.some.inj h]
 refine ⟨.d (.bool b1), ?_, (by first | exact True.intro | rfl), .d (.bool b1), ?_, ?_⟩
 ·simp only [go_sem, Tryd.results58, List.length_append, List.length_set, List.length_replicate, ↓reduceIte]
 ·simp only [go_sem, lenc_nil, List.take_length, List.length_append, List.length_set, List.length_replicate, ↓reduceIte]
 ·(first | exact leV_refl _ | (simp only [go_sem, leV, leVL, leD, leDL, lenc_nil, leD_refl, leDL_refl, lstD_le, ↓reduceIte]; done))
end Go.Pv.Tryd

namespace Go.Pv.Tryd
open Go.Proofs Go.Pv
theorem m_cocketref01_reaches_ok (n1 : Int) (l1 : (List Offer)) (to1 : Int) (most1 : Int) (r : (List (List Reach))) (h : m_cocketref01_reaches n1 l1 to1 most1 = some r) : PureFn Tryd.prog G 57 [.d (.int .i64 n1), .d (.imm 4 (lenc Offer.pd l1)), .d (.int .i64 to1), .d (.int .i64 most1)] (.d (.imm 1 (lenc (slenc 5 Reach.pd) r))) := by
 unfold m_cocketref01_reaches at h
 refine PureFn.intro2 Tryd.func57 (by rfl) (by rw [Tryd.ntmps57]; simp) ?_
 rw [Tryd.ntmps57]
 simp only [argEnv, reduceCtorEq, ↓reduceIte, Nat.reduceAdd, Nat.reduceMul, Nat.reduceLT, Nat.reduceLeDiff, Nat.reduceEqDiff, Nat.reduceBEq, Int.reduceToNat]
 refine AWp.seq fun K_1 hK_1 => AWp.reg ?_
 iterate 1 (refine AOps.consU fun K' hK' => ?_; simp (disch := omega) only [go_sem, ↓reduceIte]; refine hK' _ ?_; clear hK' K')
 refine AOps.nil ?_
 simp only [Post.then]
 refine hK_1 _ ?_
 clear hK_1 K_1
 refine AWp.seq fun K_2 hK_2 => AWp.reg ?_
 obtain ⟨hg_3, h⟩ := guardO_some h
 iterate 2 (refine AOps.consU fun K' hK' => ?_; simp (disch := omega) only [go_sem, ↓reduceIte]; refine hK' _ ?_; clear hK' K')
 refine AOps.sub (τ := ⟨[(0, .d (.int .i64 n1)), (1, .d (.imm 4 (lenc Offer.pd l1))), (2, .d (.int .i64 to1)), (3, .d (.int .i64 most1)), (17, .slc 1000 0 ((n1).toNat))], [(1000, ⟨90, 5, dl (lenc Reach.pd (List.replicate (n1).toNat (⟨false, ⟨⟨false, []⟩, ⟨false, []⟩⟩⟩ : Reach)))⟩)], [], none⟩) (Sub.cvh ⟨⟨_, rfl, rfl, rfl, leVL_rep (by simp only [go_sem, leD, leDL, lenc_nil, leD_refl, leDL_refl, and_self, and_true]) _⟩, trivial⟩ ⟨rfl, trivial⟩ ⟨.inl ⟨leV_refl _, trivial⟩, .inl ⟨leV_refl _, trivial⟩, .inl ⟨leV_refl _, trivial⟩, .inl ⟨leV_refl _, trivial⟩, .inl ⟨leV_refl _, rfl⟩, trivial⟩ ⟨row_refs _ _, trivial⟩ ⟨rfl, trivial, rfl⟩) ?_
 iterate 1 (refine AOps.consU fun K' hK' => ?_; simp (disch := omega) only [go_sem, ↓reduceIte]; refine hK' _ ?_; clear hK' K')
 refine AOps.nil ?_
 simp only [Post.then]
 refine hK_2 _ ?_
 clear hK_2 K_2
 refine AWp.seq fun K_4 hK_4 => AWp.reg ?_
 iterate 2 (refine AOps.consU fun K' hK' => ?_; simp (disch := omega) only [go_sem, ↓reduceIte]; refine hK' _ ?_; clear hK' K')
 obtain ⟨r1, hx_5, h⟩ := bind_some h
 refine AOps.consU fun K' hK' => ?_; simp (disch := omega) only [go_sem, ↓reduceIte]; refine OpT.call (by rfl) (by rfl) (by kernel_rfl) (m_cocketref01_Frac_ok 1 1 _ hx_5) (by exact ⟨rfl, rfl, trivial⟩) (by simp only [go_sem, ↓reduceIte]) ?_ (by simp only [go_sem]); simp only [go_sem, ↓reduceIte]; refine hK' _ ?_; clear hK' K'
 obtain ⟨e1, hx_6, h⟩ := bind_some h
 obtain ⟨f_7, f_8, f_9, f_10⟩ := idx_some hx_6
 try simp only [List.length_append, List.length_set, List.length_replicate, List.length_cons, List.length_nil] at f_8 f_10
 iterate 3 (refine AOps.consU fun K' hK' => ?_; simp (disch := omega) only [go_sem, f_9, ↓reduceIte]; refine hK' _ ?_; clear hK' K')
 refine AOps.nil ?_
 simp only [Post.then]
 refine hK_4 _ ?_
 clear hK_4 K_4
 refine AWp.seq fun K_11 hK_11 => AWp.reg ?_
 iterate 1 (refine AOps.consU fun K' hK' => ?_; simp (disch := omega) only [go_sem, ↓reduceIte]; refine hK' _ ?_; clear hK' K')
 refine AOps.sub (τ := ⟨[(0, .d (.int .i64 n1)), (1, .d (.imm 4 (lenc Offer.pd l1))), (3, .d (.int .i64 most1)), (23, .d (.imm 5 (lenc Reach.pd ((List.replicate (n1).toNat (⟨false, ⟨⟨false, []⟩, ⟨false, []⟩⟩⟩ : Reach)).set (to1).toNat (⟨true, r1⟩ : Reach)))))], [], [], none⟩) (Sub.cv trivial ⟨.inl ⟨leV_refl _, trivial⟩, .inl ⟨leV_refl _, trivial⟩, .inl ⟨leV_refl _, trivial⟩, .inr ⟨_, frz_row rfl (by simp only [List.length_append, List.length_set, List.length_replicate, List.length_cons, List.length_nil, Nat.zero_add]), leV_refl _, rows_slc rfl⟩, trivial⟩ trivial ⟨rfl, trivial, rfl⟩) ?_
 iterate 2 (refine AOps.consU fun K' hK' => ?_; simp (disch := omega) only [go_sem, ↓reduceIte]; refine hK' _ ?_; clear hK' K')
 refine AOps.nil ?_
 simp only [Post.then]
 refine hK_11 _ ?_
 clear hK_11 K_11
 obtain ⟨o_12, hj_13, h⟩ := bind_some h
 refine AWp.seqI (fun i_105 : (List (List Reach)) => ⟨[(10, .slc 1000 0 i_105.length)], [(1000, ⟨86, 1, dl (lenc (slenc 5 Reach.pd) i_105)⟩)], [], none⟩) (fun i_105 => o_12 = i_105) ?_ ?_
 ·refine AWp.seq fun K_14 hK_14 => AWp.reg ?_
  iterate 1 (refine AOps.consU fun K' hK' => ?_; simp (disch := omega) only [go_sem, ↓reduceIte]; refine hK' _ ?_; clear hK' K')
  refine AOps.nil ?_
  simp only [Post.then]
  refine hK_14 _ ?_
  clear hK_14 K_14
  refine AWp.block ?_
  obtain ⟨x_19, hl_16, h2_17⟩ := bind_some hj_13
  obtain ⟨n_15, hl_16⟩ := iter_some hl_16
  refine AWp.loopI (fun i_103 : Nat × (Int × (List (List Reach))) => ⟨[(0, .d (.int .i64 n1)), (1, .d (.imm 4 (lenc Offer.pd l1))), (3, .d (.int .i64 most1)), (10, .slc 1000 0 i_103.2.2.length), (11, .d (.int .i64 i_103.2.1))], [(1000, ⟨86, 1, dl (lenc (slenc 5 Reach.pd) i_103.2.2)⟩)], [], none⟩) (fun i_103 => iterN (m_cocketref01_reaches_l1 n1 l1 most1) i_103.1 i_103.2 = some x_19) (fun i_103 => i_103.1) (n_15, (1, [((List.replicate (n1).toNat (⟨false, ⟨⟨false, []⟩, ⟨false, []⟩⟩⟩ : Reach)).set (to1).toNat (⟨true, r1⟩ : Reach))])) hl_16 (Sub.mk ⟨rfl, rfl, rfl, slcl (by simp only [List.length_append, List.length_set, List.length_replicate, List.length_cons, List.length_nil, Nat.zero_add]), rfl, trivial⟩ ⟨rfl, trivial⟩ ⟨trivial, trivial, trivial, rfl, trivial, trivial⟩ ⟨row_refs _ _, trivial⟩ ⟨rfl, trivial, rfl⟩) ?_
  clear hl_16
  rintro ⟨n_15, k1, L2⟩ hl_16
  try dsimp only at hl_16
  try dsimp only
  cases n_15 with
  | zero => cases hl_16
  | succ n_15 =>
   rw [iterN_succ] at hl_16
   obtain ⟨ob_20, hb_18, hl_16⟩ := bind_some hl_16
   unfold m_cocketref01_reaches_l1 at hb_18
   try dsimp only at hb_18
   refine AWp.seq fun K_21 hK_21 => ?_
   refine AWp.seq fun K_22 hK_22 => AWp.reg ?_
   iterate 3 (refine AOps.consU fun K' hK' => ?_; simp (disch := omega) only [go_sem, ↓reduceIte]; refine hK' _ ?_; clear hK' K')
   refine AOps.nil ?_
   simp only [Post.then]
   refine hK_22 _ ?_
   clear hK_22 K_22
   refine AWp.cond (b := (decide (k1 ≤ most1))) (by rfl) (fun hb_23 => ?_) (fun hb_23 => ?_)
   ·rw [hb_23, cond_true] at hb_18
    refine AWp.skip ?_
    simp only [Post.then, Post.inBlock, ↓reduceIte, Nat.reduceEqDiff]
    refine hK_21 _ ?_
    clear hK_21 K_21
    obtain ⟨o_24, hj_25, hb_18⟩ := bind_some hb_18
    refine AWp.seqI (fun i_101 : (List (List Reach)) => ⟨[(0, .d (.int .i64 n1)), (1, .d (.imm 4 (lenc Offer.pd l1))), (3, .d (.int .i64 most1)), (10, .slc 1000 0 i_101.length), (11, .d (.int .i64 k1))], [(1000, ⟨86, 1, dl (lenc (slenc 5 Reach.pd) i_101)⟩)], [], none⟩) (fun i_101 => o_24 = i_101) ?_ ?_
    ·refine AWp.block ?_
     refine AWp.seq fun K_26 hK_26 => AWp.reg ?_
     obtain ⟨hg_27, hj_25⟩ := guardO_some hj_25
     iterate 2 (refine AOps.consU fun K' hK' => ?_; simp (disch := omega) only [go_sem, ↓reduceIte]; refine hK' _ ?_; clear hK' K')
     refine AOps.sub (τ := ⟨[(0, .d (.int .i64 n1)), (1, .d (.imm 4 (lenc Offer.pd l1))), (3, .d (.int .i64 most1)), (10, .slc 1000 0 L2.length), (11, .d (.int .i64 k1)), (31, .slc 1001 0 ((n1).toNat))], [(1000, ⟨86, 1, dl (lenc (slenc 5 Reach.pd) L2)⟩), (1001, ⟨90, 5, dl (lenc Reach.pd (List.replicate (n1).toNat (⟨false, ⟨⟨false, []⟩, ⟨false, []⟩⟩⟩ : Reach)))⟩)], [], none⟩) (Sub.cvh ⟨⟨_, rfl, rfl, rfl, leVL_refl _⟩, ⟨_, rfl, rfl, rfl, leVL_rep (by simp only [go_sem, leD, leDL, lenc_nil, leD_refl, leDL_refl, and_self, and_true]) _⟩, trivial⟩ ⟨rfl, rfl, trivial⟩ ⟨.inl ⟨leV_refl _, trivial⟩, .inl ⟨leV_refl _, trivial⟩, .inl ⟨leV_refl _, trivial⟩, .inl ⟨leV_refl _, rfl⟩, .inl ⟨leV_refl _, trivial⟩, .inl ⟨leV_refl _, rfl⟩, trivial⟩ ⟨row_refs _ _, row_refs _ _, trivial⟩ ⟨rfl, trivial, rfl⟩) ?_
     iterate 1 (refine AOps.consU fun K' hK' => ?_; simp (disch := omega) only [go_sem, ↓reduceIte]; refine hK' _ ?_; clear hK' K')
     refine AOps.nil ?_
     simp only [Post.then]
     refine hK_26 _ ?_
     clear hK_26 K_26
     obtain ⟨o_28, hj_29, hj_25⟩ := bind_some hj_25
     refine AWp.seqI (fun i_98 : (List Reach) => ⟨[(0, .d (.int .i64 n1)), (1, .d (.imm 4 (lenc Offer.pd l1))), (3, .d (.int .i64 most1)), (10, .slc 1000 0 L2.length), (11, .d (.int .i64 k1)), (12, .slc 1001 0 i_98.length)], [(1000, ⟨86, 1, dl (lenc (slenc 5 Reach.pd) L2)⟩), (1001, ⟨90, 5, dl (lenc Reach.pd i_98)⟩)], [], none⟩) (fun i_98 => o_28 = i_98) ?_ ?_
     ·refine AWp.seq fun K_30 hK_30 => AWp.reg ?_
      iterate 1 (refine AOps.consU fun K' hK' => ?_; simp (disch := omega) only [go_sem, ↓reduceIte]; refine hK' _ ?_; clear hK' K')
      refine AOps.nil ?_
      simp only [Post.then]
      refine hK_30 _ ?_
      clear hK_30 K_30
      refine AWp.block ?_
      obtain ⟨x_35, hl_32, h2_33⟩ := bind_some hj_29
      obtain ⟨n_31, hl_32⟩ := iter_some hl_32
      refine AWp.loopI (fun i_95 : Nat × (Int × (List Reach)) => ⟨[(0, .d (.int .i64 n1)), (1, .d (.imm 4 (lenc Offer.pd l1))), (3, .d (.int .i64 most1)), (10, .slc 1000 0 L2.length), (11, .d (.int .i64 k1)), (12, .slc 1001 0 i_95.2.2.length), (13, .d (.int .i64 i_95.2.1))], [(1000, ⟨86, 1, dl (lenc (slenc 5 Reach.pd) L2)⟩), (1001, ⟨90, 5, dl (lenc Reach.pd i_95.2.2)⟩)], [], none⟩) (fun i_95 => iterN (m_cocketref01_reaches_l2 l1 k1 L2) i_95.1 i_95.2 = some x_35) (fun i_95 => i_95.1) (n_31, (0, (List.replicate (n1).toNat (⟨false, ⟨⟨false, []⟩, ⟨false, []⟩⟩⟩ : Reach)))) hl_32 (Sub.mk ⟨rfl, rfl, rfl, rfl, rfl, slcl (by simp only [List.length_append, List.length_set, List.length_replicate, List.length_cons, List.length_nil, Nat.zero_add]), rfl, trivial⟩ ⟨rfl, rfl, trivial⟩ ⟨trivial, trivial, trivial, rfl, trivial, rfl, trivial, trivial⟩ ⟨row_refs _ _, row_refs _ _, trivial⟩ ⟨rfl, trivial, rfl⟩) ?_
      clear hl_32
      rintro ⟨n_31, i1, L5⟩ hl_32
      try dsimp only at hl_32
      try dsimp only
      cases n_31 with
      | zero => cases hl_32
      | succ n_31 =>
       rw [iterN_succ] at hl_32
       obtain ⟨ob_36, hb_34, hl_32⟩ := bind_some hl_32
       unfold m_cocketref01_reaches_l2 at hb_34
       try dsimp only at hb_34
       refine AWp.seq fun K_37 hK_37 => ?_
       refine AWp.seq fun K_38 hK_38 => AWp.reg ?_
       iterate 4 (refine AOps.consU fun K' hK' => ?_; simp (disch := omega) only [go_sem, ↓reduceIte]; refine hK' _ ?_; clear hK' K')
       refine AOps.nil ?_
       simp only [Post.then]
       refine hK_38 _ ?_
       clear hK_38 K_38
       refine AWp.cond (b := (decide (i1 < (l1.length : Int)))) (by rfl) (fun hb_39 => ?_) (fun hb_39 => ?_)
       ·rw [hb_39, cond_true] at hb_34
        refine AWp.skip ?_
        simp only [Post.then, Post.inBlock, ↓reduceIte, Nat.reduceEqDiff]
        refine hK_37 _ ?_
        clear hK_37 K_37
        obtain ⟨o_40, hj_41, hb_34⟩ := bind_some hb_34
        refine AWp.seqI (fun i_93 : (List Reach) => ⟨[(0, .d (.int .i64 n1)), (1, .d (.imm 4 (lenc Offer.pd l1))), (3, .d (.int .i64 most1)), (10, .slc 1000 0 L2.length), (11, .d (.int .i64 k1)), (12, .slc 1001 0 i_93.length), (13, .d (.int .i64 i1))], [(1000, ⟨86, 1, dl (lenc (slenc 5 Reach.pd) L2)⟩), (1001, ⟨90, 5, dl (lenc Reach.pd i_93)⟩)], [], none⟩) (fun i_93 => o_40 = i_93) ?_ ?_
        ·refine AWp.block ?_
         refine AWp.seq fun K_42 hK_42 => AWp.draw mo [] (by trivial) ?_
         obtain ⟨e2, hx_43, hj_41⟩ := bind_some hj_41
         obtain ⟨f_44, f_45, f_46, f_47⟩ := idx_some hx_43
         obtain ⟨e3, hx_48, hj_41⟩ := bind_some hj_41
         obtain ⟨f_49, f_50, f_51, f_52⟩ := idx_some hx_48
         obtain ⟨e4, hx_53, hj_41⟩ := bind_some hj_41
         obtain ⟨f_54, f_55, f_56, f_57⟩ := idx_some hx_53
         iterate 14 (refine DOps.consU fun K' hK' => ?_; simp (disch := omega) only [go_sem, f_46, f_51, f_56, ↓reduceIte]; refine hK' _ _ ?_; clear hK' K'; simp only [List.nil_append, List.cons_append])
         refine DOps.nil (by kernel_rfl) ?_
         simp only [Post.then]
         refine hK_42 _ ?_
         clear hK_42 K_42
         refine AWp.seq fun K_58 hK_58 => AWp.reg ?_
         iterate 2 (refine AOps.consU fun K' hK' => ?_; simp (disch := omega) only [go_sem, ↓reduceIte]; refine hK' _ ?_; clear hK' K')
         refine AOps.nil ?_
         simp only [Post.then]
         refine hK_58 _ ?_
         clear hK_58 K_58
         refine AWp.cond (b := e4.Is) (by rfl) (fun hb_59 => ?_) (fun hb_59 => ?_)
         ·rw [hb_59, cond_true] at hj_41
          refine AWp.seq fun K_60 hK_60 => AWp.draw mo [] (by trivial) ?_
          obtain ⟨e5, hx_61, hj_41⟩ := bind_some hj_41
          obtain ⟨f_62, f_63, f_64, f_65⟩ := idx_some hx_61
          iterate 4 (refine DOps.consU fun K' hK' => ?_; simp (disch := omega) only [go_sem, f_64, ↓reduceIte]; refine hK' _ _ ?_; clear hK' K'; simp only [List.nil_append, List.cons_append])
          obtain ⟨r2, hx_66, hj_41⟩ := bind_some hj_41
          refine DOps.consC fun K' hK' => ?_; simp (disch := omega) only [go_sem, f_64, ↓reduceIte]; refine OpX.call (by rfl) (by rfl) (by kernel_rfl) (m_cocketref01_rate_ok e5 _ hx_66) (by exact ⟨rfl, trivial⟩) (by simp only [go_sem, ↓reduceIte]) (by simp only [go_sem]) (by simp only [go_sem, or_true, true_or, ↓reduceIte]) ?_; simp only [go_sem, ↓reduceIte]; refine hK' _ _ ?_; clear hK' K'; simp only [List.nil_append, List.cons_append]
          iterate 2 (refine DOps.consU fun K' hK' => ?_; simp (disch := omega) only [go_sem, f_64, ↓reduceIte]; refine hK' _ _ ?_; clear hK' K'; simp only [List.nil_append, List.cons_append])
          obtain ⟨r3, hx_67, hj_41⟩ := bind_some hj_41
          refine DOps.consC fun K' hK' => ?_; simp (disch := omega) only [go_sem, f_64, ↓reduceIte]; refine OpX.call (by rfl) (by rfl) (by kernel_rfl) (m_cocketref01_Mul_ok r2 e4.Rate _ hx_67) (by exact ⟨rfl, rfl, trivial⟩) (by simp only [go_sem, ↓reduceIte]) (by simp only [go_sem]) (by simp only [go_sem, or_true, true_or, ↓reduceIte]) ?_; simp only [go_sem, ↓reduceIte]; refine hK' _ _ ?_; clear hK' K'; simp only [List.nil_append, List.cons_append]
          iterate 2 (refine DOps.consU fun K' hK' => ?_; simp (disch := omega) only [go_sem, f_64, ↓reduceIte]; refine hK' _ _ ?_; clear hK' K'; simp only [List.nil_append, List.cons_append])
          refine DOps.nil (by kernel_rfl) ?_
          simp only [Post.then]
          refine hK_60 _ ?_
          clear hK_60 K_60
          refine AWp.seq fun K_68 hK_68 => AWp.draw mo [] (by trivial) ?_
          obtain ⟨e6, hx_69, hj_41⟩ := bind_some hj_41
          obtain ⟨f_70, f_71, f_72, f_73⟩ := idx_some hx_69
          obtain ⟨e7, hx_74, hj_41⟩ := bind_some hj_41
          obtain ⟨f_75, f_76, f_77, f_78⟩ := idx_some hx_74
          iterate 9 (refine DOps.consU fun K' hK' => ?_; simp (disch := omega) only [go_sem, f_72, f_77, ↓reduceIte]; refine hK' _ _ ?_; clear hK' K'; simp only [List.nil_append, List.cons_append])
          obtain ⟨r4, hx_79, hj_41⟩ := bind_some hj_41
          refine DOps.consC fun K' hK' => ?_; simp (disch := omega) only [go_sem, f_72, f_77, ↓reduceIte]; refine OpX.call (by rfl) (by rfl) (by kernel_rfl) (m_cocketref01_better_ok e7 r3 _ hx_79) (by exact ⟨rfl, rfl, trivial⟩) (by simp only [go_sem, ↓reduceIte]) (by simp only [go_sem]) (by simp only [go_sem, or_true, true_or, ↓reduceIte]) ?_; simp only [go_sem, ↓reduceIte]; refine hK' _ _ ?_; clear hK' K'; simp only [List.nil_append, List.cons_append]
          refine DOps.nil (by kernel_rfl) ?_
          simp only [Post.then]
          refine hK_68 _ ?_
          clear hK_68 K_68
          refine AWp.cond (b := r4) (by rfl) (fun hb_80 => ?_) (fun hb_80 => ?_)
          ·rw [hb_80, cond_true] at hj_41
           refine AWp.draw mo [] (by trivial) ?_
           obtain ⟨e8, hx_82, hj_41⟩ := bind_some hj_41
           obtain ⟨f_83, f_84, f_85, f_86⟩ := idx_some hx_82
           obtain ⟨e9, hx_87, hj_41⟩ := bind_some hj_41
           obtain ⟨f_88, f_89, f_90, f_91⟩ := idx_some hx_87
           iterate 10 (refine DOps.consU fun K' hK' => ?_; simp (disch := omega) only [go_sem, f_85, f_90, ↓reduceIte]; refine hK' _ _ ?_; clear hK' K'; simp only [List.nil_append, List.cons_append])
           refine DOps.nil (by kernel_rfl) ?_
           simp only [Post.then, Post.inBlock, ↓reduceIte, Nat.reduceEqDiff]
           exact ⟨(L5.set (e8.From).toNat (⟨true, r3⟩ : Reach)), (Option.some.inj hj_41).symm, (Sub.mk ⟨rfl, rfl, rfl, rfl, rfl, slcl (by simp only [List.length_append, List.length_set, List.length_replicate, List.length_cons, List.length_nil, Nat.zero_add]), rfl, trivial⟩ ⟨rfl, rfl, trivial⟩ ⟨trivial, trivial, trivial, rfl, trivial, rfl, trivial, trivial⟩ ⟨row_refs _ _, row_refs _ _, trivial⟩ ⟨rfl, trivial, rfl⟩)⟩
          ·rw [hb_80, cond_false] at hj_41
           refine AWp.skip ?_
           simp only [Post.then, Post.inBlock, ↓reduceIte, Nat.reduceEqDiff]
           exact ⟨L5, (Option.some.inj hj_41).symm, (Sub.mk ⟨rfl, rfl, rfl, rfl, rfl, slcl (by simp only [List.length_append, List.length_set, List.length_replicate, List.length_cons, List.length_nil, Nat.zero_add]), rfl, trivial⟩ ⟨rfl, rfl, trivial⟩ ⟨trivial, trivial, trivial, rfl, trivial, rfl, trivial, trivial⟩ ⟨row_refs _ _, row_refs _ _, trivial⟩ ⟨rfl, trivial, rfl⟩)⟩
         ·rw [hb_59, cond_false] at hj_41
          refine AWp.skip ?_
          simp only [Post.then, Post.inBlock, ↓reduceIte, Nat.reduceEqDiff]
          exact ⟨L5, (Option.some.inj hj_41).symm, (Sub.mk ⟨rfl, rfl, rfl, rfl, rfl, slcl (by simp only [List.length_append, List.length_set, List.length_replicate, List.length_cons, List.length_nil, Nat.zero_add]), rfl, trivial⟩ ⟨rfl, rfl, trivial⟩ ⟨trivial, trivial, trivial, rfl, trivial, rfl, trivial, trivial⟩ ⟨row_refs _ _, row_refs _ _, trivial⟩ ⟨rfl, trivial, rfl⟩)⟩
        ·rintro L6 hx_94
         rw [hx_94] at hb_34
         try dsimp only at hb_34
         try dsimp only
         refine AWp.reg ?_
         iterate 3 (refine AOps.consU fun K' hK' => ?_; simp (disch := omega) only [go_sem, ↓reduceIte]; refine hK' _ ?_; clear hK' K')
         refine AOps.nil ?_
         simp only [Post.then, Post.inBlock, ↓reduceIte, Nat.reduceEqDiff]
         rw [← Option.some.inj hb_34] at hl_32
         try dsimp only at hl_32
         exact ⟨(n_31, ((IntKind.i64.wrap (i1 + 1)), L6)), hl_32, Nat.lt_succ_self n_31, (Sub.mk ⟨rfl, rfl, rfl, rfl, rfl, slcl (by simp only [List.length_append, List.length_set, List.length_replicate, List.length_cons, List.length_nil, Nat.zero_add]), rfl, trivial⟩ ⟨rfl, rfl, trivial⟩ ⟨trivial, trivial, trivial, rfl, trivial, rfl, trivial, trivial⟩ ⟨row_refs _ _, row_refs _ _, trivial⟩ ⟨rfl, trivial, rfl⟩)⟩
       ·rw [hb_39, cond_false] at hb_34
        refine AWp.exit ?_
        simp only [Post.then, Post.inBlock, ↓reduceIte, Nat.reduceEqDiff]
        rw [← Option.some.inj hb_34] at hl_32
        try dsimp only at hl_32
        rw [← Option.some.inj hl_32] at h2_33
        try dsimp only at h2_33
        exact ⟨L5, (Option.some.inj h2_33).symm, (Sub.mk ⟨rfl, rfl, rfl, rfl, rfl, slcl (by simp only [List.length_append, List.length_set, List.length_replicate, List.length_cons, List.length_nil, Nat.zero_add]), trivial⟩ ⟨rfl, rfl, trivial⟩ ⟨trivial, trivial, trivial, rfl, trivial, rfl, trivial⟩ ⟨row_refs _ _, row_refs _ _, trivial⟩ ⟨rfl, trivial, rfl⟩)⟩
     ·rintro L4 hx_99
      rw [hx_99] at hj_25
      try dsimp only at hj_25
      try dsimp only
      refine AWp.reg ?_
      iterate 2 (refine AOps.consU fun K' hK' => ?_; simp (disch := omega) only [go_sem, ↓reduceIte]; refine hK' _ ?_; clear hK' K')
      refine AOps.sub (τ := ⟨[(0, .d (.int .i64 n1)), (1, .d (.imm 4 (lenc Offer.pd l1))), (3, .d (.int .i64 most1)), (10, .slc 1000 0 L2.length), (11, .d (.int .i64 k1)), (79, .slc 1000 0 L2.length), (80, .d (.imm 5 (lenc Reach.pd L4)))], [(1000, ⟨86, 1, dl (lenc (slenc 5 Reach.pd) L2)⟩)], [], none⟩) (Sub.cv ⟨rfl, trivial⟩ ⟨.inl ⟨leV_refl _, trivial⟩, .inl ⟨leV_refl _, trivial⟩, .inl ⟨leV_refl _, trivial⟩, .inl ⟨leV_refl _, rfl⟩, .inl ⟨leV_refl _, trivial⟩, .inl ⟨leV_refl _, rfl⟩, .inr ⟨_, frz_row rfl (rfl), leV_refl _, rows_slc rfl⟩, trivial⟩ ⟨row_refs _ _, trivial⟩ ⟨rfl, trivial, rfl⟩) ?_
      refine AOps.consL fun K' hK' => ?_; simp (disch := omega) only [go_sem, ↓reduceIte]; refine hK' _ ?_; clear hK' K'
      obtain ⟨hg_97, hj_25⟩ := guardO_some hj_25
      iterate 2 (refine AOps.consU fun K' hK' => ?_; simp (disch := omega) only [go_sem, ↓reduceIte]; refine hK' _ ?_; clear hK' K')
      refine AOps.nil ?_
      simp only [Post.then, Post.inBlock, ↓reduceIte, Nat.reduceEqDiff]
      exact ⟨(L2 ++ [L4]), (Option.some.inj hj_25).symm, (Sub.mk ⟨rfl, rfl, rfl, slcl (by simp only [List.length_append, List.length_set, List.length_replicate, List.length_cons, List.length_nil, Nat.zero_add]), rfl, trivial⟩ ⟨rfl, trivial⟩ ⟨trivial, trivial, trivial, rfl, trivial, trivial⟩ ⟨row_refs _ _, trivial⟩ ⟨rfl, trivial, rfl⟩)⟩
    ·rintro L3 hx_102
     rw [hx_102] at hb_18
     try dsimp only at hb_18
     try dsimp only
     refine AWp.reg ?_
     iterate 3 (refine AOps.consU fun K' hK' => ?_; simp (disch := omega) only [go_sem, ↓reduceIte]; refine hK' _ ?_; clear hK' K')
     refine AOps.nil ?_
     simp only [Post.then, Post.inBlock, ↓reduceIte, Nat.reduceEqDiff]
     rw [← Option.some.inj hb_18] at hl_16
     try dsimp only at hl_16
     exact ⟨(n_15, ((IntKind.i64.wrap (k1 + 1)), L3)), hl_16, Nat.lt_succ_self n_15, (Sub.mk ⟨rfl, rfl, rfl, slcl (by simp only [List.length_append, List.length_set, List.length_replicate, List.length_cons, List.length_nil, Nat.zero_add]), rfl, trivial⟩ ⟨rfl, trivial⟩ ⟨trivial, trivial, trivial, rfl, trivial, trivial⟩ ⟨row_refs _ _, trivial⟩ ⟨rfl, trivial, rfl⟩)⟩
   ·rw [hb_23, cond_false] at hb_18
    refine AWp.exit ?_
    simp only [Post.then, Post.inBlock, ↓reduceIte, Nat.reduceEqDiff]
    rw [← Option.some.inj hb_18] at hl_16
    try dsimp only at hl_16
    rw [← Option.some.inj hl_16] at h2_17
    try dsimp only at h2_17
    exact ⟨L2, (Option.some.inj h2_17).symm, (Sub.mk ⟨slcl (by simp only [List.length_append, List.length_set, List.length_replicate, List.length_cons, List.length_nil, Nat.zero_add]), trivial⟩ ⟨rfl, trivial⟩ ⟨rfl, trivial⟩ ⟨row_refs _ _, trivial⟩ ⟨rfl, trivial, rfl⟩)⟩
 ·rintro L1 hx_106
  rw [hx_106] at h
  try dsimp only at h
  try dsimp only
  refine AWp.seq fun K_104 hK_104 => AWp.reg ?_
  iterate 2 (refine AOps.consU fun K' hK' => ?_; simp (disch := omega) only [go_sem, ↓reduceIte]; refine hK' _ ?_; clear hK' K')
  refine AOps.nil ?_
  simp only [Post.then]
  refine hK_104 _ ?_
  clear hK_104 K_104
  refine AWp.ret ?_
  simp only [Post.then, Post.inBlock, Go.Pv.Fin, Go.Pv.FinG]
  rw [← Option.some.inj h]
  refine ⟨.slc 1000 0 L1.length, ?_, (by first | exact True.intro | rfl), .d (.imm 1 (lenc (slenc 5 Reach.pd) L1)), ?_, ?_⟩
  ·simp only [go_sem, Tryd.results57, List.length_append, List.length_set, List.length_replicate, ↓reduceIte]
  ·simp only [go_sem, lenc_nil, List.take_length, List.length_append, List.length_set, List.length_replicate, ↓reduceIte]
  ·(first | exact leV_refl _ | (simp only [go_sem, leV, leVL, leD, leDL, lenc_nil, leD_refl, leDL_refl, lstD_le, ↓reduceIte]; done))
end Go.Pv.Tryd

namespace Go.Pv.Tryd
open Go.Proofs Go.Pv
theorem m_cocketref01_gains_ok (q1 : Q) (r1 : Reach) (r : Bool) (h : m_cocketref01_gains q1 r1 = some r) : PureFn Tryd.prog G 92 [.d (.agg [(.bool q1.N.Neg), (.imm 1 (lenc (PD.int .i64) q1.N.D)), (.bool q1.D.Neg), (.imm 1 (lenc (PD.int .i64) q1.D.D))]), .d (.agg [(.bool r1.Is), (.bool r1.Rate.N.Neg), (.imm 1 (lenc (PD.int .i64) r1.Rate.N.D)), (.bool r1.Rate.D.Neg), (.imm 1 (lenc (PD.int .i64) r1.Rate.D.D))])] (.d (.bool r)) := by
 unfold m_cocketref01_gains at h
 refine PureFn.intro2 Tryd.func92 (by rfl) (by rw [Tryd.ntmps92]; simp) ?_
 rw [Tryd.ntmps92]
 simp only [argEnv, reduceCtorEq, ↓reduceIte, Nat.reduceAdd, Nat.reduceMul, Nat.reduceLT, Nat.reduceLeDiff, Nat.reduceEqDiff, Nat.reduceBEq, Int.reduceToNat]
 refine AWp.seq fun K_1 hK_1 => AWp.reg ?_
 iterate 3 (refine AOps.consU fun K' hK' => ?_; simp (disch := omega) only [go_sem, ↓reduceIte]; refine hK' _ ?_; clear hK' K')
 refine AOps.nil ?_
 simp only [Post.then]
 refine hK_1 _ ?_
 clear hK_1 K_1
 refine AWp.seq fun K_2 hK_2 => AWp.reg ?_
 iterate 3 (refine AOps.consU fun K' hK' => ?_; simp (disch := omega) only [go_sem, ↓reduceIte]; refine hK' _ ?_; clear hK' K')
 obtain ⟨b1, hc_3, h⟩ := bind_some h
 refine AOps.cut 8 (⟨[(4, .d (.bool false)), (15, .d (.bool b1))], [], [], none⟩) ?_ ?_
 ·simp only [List.take_succ_cons, List.take_zero]
  rcases Bool.eq_false_or_eq_true r1.Is with hg_7 | hg_7
  ·rw [hg_7]
   rw [hg_7, cond_true] at hc_3
   iterate 3 (refine AOps.consU fun K' hK' => ?_; simp (disch := omega) only [go_sem, ↓reduceIte]; refine hK' _ ?_; clear hK' K')
   obtain ⟨r2, hx_4, hc_3⟩ := bind_some hc_3
   refine AOps.consU fun K' hK' => ?_; simp (disch := omega) only [go_sem, ↓reduceIte]; refine OpT.call (by rfl) (by rfl) (by kernel_rfl) (m_cocketref01_Mul_ok q1 r1.Rate _ hx_4) (by exact ⟨rfl, rfl, trivial⟩) (by simp only [go_sem, ↓reduceIte]) ?_ (by simp only [go_sem]); simp only [go_sem, ↓reduceIte]; refine hK' _ ?_; clear hK' K'
   obtain ⟨r3, hx_5, hc_3⟩ := bind_some hc_3
   refine AOps.consU fun K' hK' => ?_; simp (disch := omega) only [go_sem, ↓reduceIte]; refine OpT.call (by rfl) (by rfl) (by kernel_rfl) (m_cocketref01_Frac_ok 1 1 _ hx_5) (by exact ⟨rfl, rfl, trivial⟩) (by simp only [go_sem, ↓reduceIte]) ?_ (by simp only [go_sem]); simp only [go_sem, ↓reduceIte]; refine hK' _ ?_; clear hK' K'
   obtain ⟨r4, hx_6, hc_3⟩ := bind_some hc_3
   refine AOps.consU fun K' hK' => ?_; simp (disch := omega) only [go_sem, ↓reduceIte]; refine OpT.call (by rfl) (by rfl) (by kernel_rfl) (m_cocketref01_Cmp_ok r2 r3 _ hx_6) (by exact ⟨rfl, rfl, trivial⟩) (by simp only [go_sem, ↓reduceIte]) ?_ (by simp only [go_sem]); simp only [go_sem, ↓reduceIte]; refine hK' _ ?_; clear hK' K'
   iterate 2 (refine AOps.consU fun K' hK' => ?_; simp (disch := omega) only [go_sem, ↓reduceIte]; refine hK' _ ?_; clear hK' K')
   refine AOps.nil ?_
   have hc_3 := Option.some.inj hc_3
   subst hc_3
   exact (Sub.mk ⟨rfl, rfl, trivial⟩ trivial ⟨trivial, trivial, trivial⟩ trivial ⟨rfl, trivial, rfl⟩)
  ·rw [hg_7]
   rw [hg_7, cond_false] at hc_3
   iterate 8 (refine AOps.consU fun K' hK' => ?_; simp (disch := omega) only [go_sem, ↓reduceIte]; refine hK' _ ?_; clear hK' K')
   refine AOps.nil ?_
   have hc_3 := Option.some.inj hc_3
   subst hc_3
   exact (Sub.mk ⟨rfl, rfl, trivial⟩ trivial ⟨trivial, trivial, trivial⟩ trivial ⟨rfl, trivial, rfl⟩)
 simp only [List.drop_succ_cons, List.drop_zero]
 iterate 1 (refine AOps.consU fun K' hK' => ?_; simp (disch := omega) only [go_sem, ↓reduceIte]; refine hK' _ ?_; clear hK' K')
 refine AOps.nil ?_
 simp only [Post.then]
 refine hK_2 _ ?_
 clear hK_2 K_2
 refine AWp.ret ?_
 simp only [Post.then, Post.inBlock, Go.Pv.Fin, Go.Pv.FinG]
 rw [← Option.some.inj h]
 refine ⟨.d (.bool b1), ?_, (by first | exact True.intro | rfl), .d (.bool b1), ?_, ?_⟩
 ·simp only [go_sem, Tryd.results92, List.length_append, List.length_set, List.length_replicate, ↓reduceIte]
 ·simp only [go_sem, lenc_nil, List.take_length, List.length_append, List.length_set, List.length_replicate, ↓reduceIte]
 ·(first | exact leV_refl _ | (simp only [go_sem, leV, leVL, leD, leDL, lenc_nil, leD_refl, leDL_refl, lstD_le, ↓reduceIte]; done))
end Go.Pv.Tryd

namespace Go.Pv.Tryd
open Go.Proofs Go.Pv
theorem m_cocketref01_closed_ok (l1 : (List Offer)) (r1 : (List (List Reach))) (first1 : Int) (k1 : Int) (r : ((List Int) × Bool)) (h : m_cocketref01_closed l1 r1 first1 k1 = some r) : PureFn Tryd.prog G 77 [.d (.imm 4 (lenc Offer.pd l1)), .d (.imm 1 (lenc (slenc 5 Reach.pd) r1)), .d (.int .i64 first1), .d (.int .i64 k1)] (.tuple [.d (.imm 1 (lenc (PD.int .i64) r.1)), .d (.bool r.2)]) := by
 unfold m_cocketref01_closed at h
 refine PureFn.intro2 Tryd.func77 (by rfl) (by rw [Tryd.ntmps77]; simp) ?_
 rw [Tryd.ntmps77]
 simp only [argEnv, reduceCtorEq, ↓reduceIte, Nat.reduceAdd, Nat.reduceMul, Nat.reduceLT, Nat.reduceLeDiff, Nat.reduceEqDiff, Nat.reduceBEq, Int.reduceToNat]
 refine AWp.seq fun K_1 hK_1 => AWp.reg ?_
 iterate 2 (refine AOps.consU fun K' hK' => ?_; simp (disch := omega) only [go_sem, ↓reduceIte]; refine hK' _ ?_; clear hK' K')
 refine AOps.nil ?_
 simp only [Post.then]
 refine hK_1 _ ?_
 clear hK_1 K_1
 refine AWp.seq fun K_2 hK_2 => AWp.reg ?_
 iterate 3 (refine AOps.consU fun K' hK' => ?_; simp (disch := omega) only [go_sem, ↓reduceIte]; refine hK' _ ?_; clear hK' K')
 refine AOps.nil ?_
 simp only [Post.then]
 refine hK_2 _ ?_
 clear hK_2 K_2
 refine AWp.seq fun K_3 hK_3 => AWp.reg ?_
 obtain ⟨e1, hx_4, h⟩ := bind_some h
 obtain ⟨f_5, f_6, f_7, f_8⟩ := idx_some hx_4
 iterate 4 (refine AOps.consU fun K' hK' => ?_; simp (disch := omega) only [go_sem, f_7, ↓reduceIte]; refine hK' _ ?_; clear hK' K')
 obtain ⟨r2, hx_9, h⟩ := bind_some h
 refine AOps.consU fun K' hK' => ?_; simp (disch := omega) only [go_sem, f_7, ↓reduceIte]; refine OpT.call (by rfl) (by rfl) (by kernel_rfl) (m_cocketref01_rate_ok e1 _ hx_9) (by exact ⟨rfl, trivial⟩) (by simp only [go_sem, ↓reduceIte]) ?_ (by simp only [go_sem]); simp only [go_sem, ↓reduceIte]; refine hK' _ ?_; clear hK' K'
 iterate 2 (refine AOps.consU fun K' hK' => ?_; simp (disch := omega) only [go_sem, f_7, ↓reduceIte]; refine hK' _ ?_; clear hK' K')
 refine AOps.nil ?_
 simp only [Post.then]
 refine hK_3 _ ?_
 clear hK_3 K_3
 refine AWp.seq fun K_10 hK_10 => ?_
 refine AWp.seq fun K_11 hK_11 => AWp.draw mo [] (by trivial) ?_
 obtain ⟨e2, hx_12, h⟩ := bind_some h
 obtain ⟨f_13, f_14, f_15, f_16⟩ := idx_some hx_12
 obtain ⟨e3, hx_17, h⟩ := bind_some h
 obtain ⟨f_18, f_19, f_20, f_21⟩ := idx_some hx_17
 obtain ⟨e4, hx_22, h⟩ := bind_some h
 obtain ⟨f_23, f_24, f_25, f_26⟩ := idx_some hx_22
 iterate 13 (refine DOps.consU fun K' hK' => ?_; simp (disch := omega) only [go_sem, f_15, f_20, f_25, ↓reduceIte]; refine hK' _ _ ?_; clear hK' K'; simp only [List.nil_append, List.cons_append])
 obtain ⟨r3, hx_27, h⟩ := bind_some h
 refine DOps.consC fun K' hK' => ?_; simp (disch := omega) only [go_sem, f_15, f_20, f_25, ↓reduceIte]; refine OpX.call (by rfl) (by rfl) (by kernel_rfl) (m_cocketref01_gains_ok r2 e4 _ hx_27) (by exact ⟨rfl, rfl, trivial⟩) (by simp only [go_sem, ↓reduceIte]) (by simp only [go_sem]) (by simp only [go_sem, or_true, true_or, ↓reduceIte]) ?_; simp only [go_sem, ↓reduceIte]; refine hK' _ _ ?_; clear hK' K'; simp only [List.nil_append, List.cons_append]
 iterate 1 (refine DOps.consU fun K' hK' => ?_; simp (disch := omega) only [go_sem, f_15, f_20, f_25, ↓reduceIte]; refine hK' _ _ ?_; clear hK' K'; simp only [List.nil_append, List.cons_append])
 refine DOps.nil (by kernel_rfl) ?_
 simp only [Post.then]
 refine hK_11 _ ?_
 clear hK_11 K_11
 refine AWp.cond (b := (!r3)) (by rfl) (fun hb_28 => ?_) (fun hb_28 => ?_)
 ·rw [hb_28, cond_true] at h
  refine AWp.seq fun K_29 hK_29 => AWp.reg ?_
  iterate 2 (refine AOps.consU fun K' hK' => ?_; simp (disch := omega) only [go_sem, ↓reduceIte]; refine hK' _ ?_; clear hK' K')
  refine AOps.nil ?_
  simp only [Post.then]
  refine hK_29 _ ?_
  clear hK_29 K_29
  refine AWp.ret ?_
  simp only [Post.then, Post.inBlock, Go.Pv.Fin, Go.Pv.FinG]
  rw [← Option.some.inj h]
  refine ⟨.tuple [.d .nilslice, .d (.bool false)], ?_, (by first | exact True.intro | rfl), .tuple [.d .nilslice, .d (.bool false)], ?_, ?_⟩
  ·simp only [go_sem, Tryd.results77, List.length_append, List.length_set, List.length_replicate, ↓reduceIte]
  ·simp only [go_sem, lenc_nil, List.take_length, List.length_append, List.length_set, List.length_replicate, ↓reduceIte]
  ·(first | exact leV_refl _ | (simp only [go_sem, leV, leVL, leD, leDL, lenc_nil, leD_refl, leDL_refl, lstD_le, ↓reduceIte]; done))
 ·rw [hb_28, cond_false] at h
  refine AWp.skip ?_
  simp only [Post.then, Post.inBlock, ↓reduceIte, Nat.reduceEqDiff]
  refine hK_10 _ ?_
  clear hK_10 K_10
  obtain ⟨o_30, hj_31, h⟩ := bind_some h
  refine AWp.seqI (fun i_110 : (List Int) => ⟨[(10, .slc 1000 0 i_110.length)], [(1000, ⟨3, 1, dl (lenc (PD.int .i64) i_110)⟩)], [], none⟩) (fun i_110 => o_30 = i_110) ?_ ?_
  ·refine AWp.block ?_
   obtain ⟨x_36, hl_33, h2_34⟩ := bind_some hj_31
   obtain ⟨n_32, hl_33⟩ := iter_some hl_33
   refine AWp.loopI (fun i_108 : Nat × ((List Int) × Q) => ⟨[(0, .d (.imm 4 (lenc Offer.pd l1))), (1, .d (.imm 1 (lenc (slenc 5 Reach.pd) r1))), (3, .d (.int .i64 k1)), (10, .slc 1000 0 i_108.2.1.length), (11, .ptr 1001 0 0)], [(1000, ⟨3, 1, dl (lenc (PD.int .i64) i_108.2.1)⟩), (1001, ⟨59, 4, [.d (.agg [(.bool i_108.2.2.N.Neg), (.imm 1 (lenc (PD.int .i64) i_108.2.2.N.D)), (.bool i_108.2.2.D.Neg), (.imm 1 (lenc (PD.int .i64) i_108.2.2.D.D))])]⟩)], [], none⟩) (fun i_108 => iterN (m_cocketref01_closed_l1 l1 r1 k1) i_108.1 i_108.2 = some x_36) (fun i_108 => i_108.1) (n_32, ([first1], r2)) hl_33 (Sub.mk ⟨rfl, rfl, rfl, slcl (by simp only [List.length_append, List.length_set, List.length_replicate, List.length_cons, List.length_nil, Nat.zero_add]), rfl, trivial⟩ ⟨rfl, rfl, trivial⟩ ⟨trivial, trivial, trivial, rfl, rfl, trivial⟩ ⟨row_refs _ _, ⟨trivial, trivial⟩, trivial⟩ ⟨rfl, trivial, rfl⟩) ?_
   clear hl_33
   rintro ⟨n_32, L2, c1⟩ hl_33
   try dsimp only at hl_33
   try dsimp only
   cases n_32 with
   | zero => cases hl_33
   | succ n_32 =>
    rw [iterN_succ] at hl_33
    obtain ⟨ob_37, hb_35, hl_33⟩ := bind_some hl_33
    unfold m_cocketref01_closed_l1 at hb_35
    try dsimp only at hb_35
    refine AWp.seq fun K_38 hK_38 => ?_
    refine AWp.seq fun K_39 hK_39 => AWp.reg ?_
    iterate 4 (refine AOps.consU fun K' hK' => ?_; simp (disch := omega) only [go_sem, ↓reduceIte]; refine hK' _ ?_; clear hK' K')
    refine AOps.nil ?_
    simp only [Post.then]
    refine hK_39 _ ?_
    clear hK_39 K_39
    refine AWp.cond (b := (decide ((L2.length : Int) < k1))) (by rfl) (fun hb_40 => ?_) (fun hb_40 => ?_)
    ·rw [hb_40, cond_true] at hb_35
     refine AWp.skip ?_
     simp only [Post.then, Post.inBlock, ↓reduceIte, Nat.reduceEqDiff]
     refine hK_38 _ ?_
     clear hK_38 K_38
     refine AWp.block ?_
     refine AWp.seq fun K_41 hK_41 => AWp.reg ?_
     obtain ⟨e5, hx_42, hb_35⟩ := bind_some hb_35
     obtain ⟨f_43, f_44, f_45, f_46⟩ := idx_some hx_42
     try simp only [Int.toNat_natCast] at f_45 f_46
     obtain ⟨e6, hx_47, hb_35⟩ := bind_some hb_35
     obtain ⟨f_48, f_49, f_50, f_51⟩ := idx_some hx_47
     iterate 11 (refine AOps.consU fun K' hK' => ?_; simp (disch := omega) only [go_sem, f_45, f_50, ↓reduceIte]; refine hK' _ ?_; clear hK' K')
     refine AOps.nil ?_
     simp only [Post.then]
     refine hK_41 _ ?_
     clear hK_41 K_41
     refine AWp.seq fun K_52 hK_52 => AWp.reg ?_
     iterate 1 (refine AOps.consU fun K' hK' => ?_; simp (disch := omega) only [go_sem, ↓reduceIte]; refine hK' _ ?_; clear hK' K')
     refine AOps.nil ?_
     simp only [Post.then]
     refine hK_52 _ ?_
     clear hK_52 K_52
     refine AWp.block ?_
     obtain ⟨x_57, hl_54, h2_55⟩ := bind_some hb_35
     obtain ⟨n_53, hl_54⟩ := iter_some hl_54
     refine AWp.loopI (fun i_107 : Nat × (Int × (List Int) × Q) => ⟨[(0, .d (.imm 4 (lenc Offer.pd l1))), (1, .d (.imm 1 (lenc (slenc 5 Reach.pd) r1))), (3, .d (.int .i64 k1)), (10, .slc 1000 0 i_107.2.2.1.length), (11, .ptr 1001 0 0), (12, .d (.int .i64 e6.To)), (13, .d (.int .i64 i_107.2.1))], [(1000, ⟨3, 1, dl (lenc (PD.int .i64) i_107.2.2.1)⟩), (1001, ⟨59, 4, [.d (.agg [(.bool i_107.2.2.2.N.Neg), (.imm 1 (lenc (PD.int .i64) i_107.2.2.2.N.D)), (.bool i_107.2.2.2.D.Neg), (.imm 1 (lenc (PD.int .i64) i_107.2.2.2.D.D))])]⟩)], [], none⟩) (fun i_107 => iterN (m_cocketref01_closed_l2 l1 r1 k1 e6) i_107.1 i_107.2 = some x_57) (fun i_107 => i_107.1) (n_53, (0, L2, c1)) hl_54 (Sub.mk ⟨rfl, rfl, rfl, slcl (by simp only [List.length_append, List.length_set, List.length_replicate, List.length_cons, List.length_nil, Nat.zero_add]), rfl, rfl, rfl, trivial⟩ ⟨rfl, rfl, trivial⟩ ⟨trivial, trivial, trivial, rfl, rfl, trivial, trivial, trivial⟩ ⟨row_refs _ _, ⟨trivial, trivial⟩, trivial⟩ ⟨rfl, trivial, rfl⟩) ?_
     clear hl_54
     rintro ⟨n_53, i1, L3, c2⟩ hl_54
     try dsimp only at hl_54
     try dsimp only
     cases n_53 with
     | zero => cases hl_54
     | succ n_53 =>
      rw [iterN_succ] at hl_54
      obtain ⟨ob_58, hb_56, hl_54⟩ := bind_some hl_54
      unfold m_cocketref01_closed_l2 at hb_56
      try dsimp only at hb_56
      refine AWp.seq fun K_59 hK_59 => ?_
      refine AWp.seq fun K_60 hK_60 => AWp.reg ?_
      iterate 4 (refine AOps.consU fun K' hK' => ?_; simp (disch := omega) only [go_sem, ↓reduceIte]; refine hK' _ ?_; clear hK' K')
      refine AOps.nil ?_
      simp only [Post.then]
      refine hK_60 _ ?_
      clear hK_60 K_60
      refine AWp.cond (b := (decide (i1 < (l1.length : Int)))) (by rfl) (fun hb_61 => ?_) (fun hb_61 => ?_)
      ·rw [hb_61, cond_true] at hb_56
       refine AWp.skip ?_
       simp only [Post.then, Post.inBlock, ↓reduceIte, Nat.reduceEqDiff]
       refine hK_59 _ ?_
       clear hK_59 K_59
       refine AWp.seq fun K_62 hK_62 => ?_
       refine AWp.block ?_
       refine AWp.seq fun K_63 hK_63 => AWp.draw mo [] (by trivial) ?_
       obtain ⟨e7, hx_64, hb_56⟩ := bind_some hb_56
       obtain ⟨f_65, f_66, f_67, f_68⟩ := idx_some hx_64
       iterate 8 (refine DOps.consU fun K' hK' => ?_; simp (disch := omega) only [go_sem, f_67, ↓reduceIte]; refine hK' _ _ ?_; clear hK' K'; simp only [List.nil_append, List.cons_append])
       rcases Bool.eq_false_or_eq_true (decide (e7.From = e6.To)) with hg_69 | hg_69
       ·rw [hg_69]
        rw [hg_69, cond_true] at hb_56
        iterate 5 (refine DOps.consU fun K' hK' => ?_; simp (disch := omega) only [go_sem, f_67, ↓reduceIte]; refine hK' _ _ ?_; clear hK' K'; simp only [List.nil_append, List.cons_append])
        obtain ⟨r4, hx_70, hb_56⟩ := bind_some hb_56
        refine DOps.consC fun K' hK' => ?_; simp (disch := omega) only [go_sem, f_67, ↓reduceIte]; refine OpX.call (by rfl) (by rfl) (by kernel_rfl) (m_cocketref01_rate_ok e7 _ hx_70) (by exact ⟨rfl, trivial⟩) (by simp only [go_sem, ↓reduceIte]) (by simp only [go_sem]) (by simp only [go_sem, or_true, true_or, ↓reduceIte]) ?_; simp only [go_sem, ↓reduceIte]; refine hK' _ _ ?_; clear hK' K'; simp only [List.nil_append, List.cons_append]
        obtain ⟨r5, hx_71, hb_56⟩ := bind_some hb_56
        refine DOps.consC fun K' hK' => ?_; simp (disch := omega) only [go_sem, f_67, ↓reduceIte]; refine OpX.call (by rfl) (by rfl) (by kernel_rfl) (m_cocketref01_Mul_ok c2 r4 _ hx_71) (by exact ⟨rfl, rfl, trivial⟩) (by simp only [go_sem, ↓reduceIte]) (by simp only [go_sem]) (by simp only [go_sem, or_true, true_or, ↓reduceIte]) ?_; simp only [go_sem, ↓reduceIte]; refine hK' _ _ ?_; clear hK' K'; simp only [List.nil_append, List.cons_append]
        obtain ⟨e8, hx_72, hb_56⟩ := bind_some hb_56
        obtain ⟨f_73, f_74, f_75, f_76⟩ := idx_some hx_72
        try simp only [Int.toNat_natCast] at f_75 f_76
        obtain ⟨e9, hx_77, hb_56⟩ := bind_some hb_56
        obtain ⟨f_78, f_79, f_80, f_81⟩ := idx_some hx_77
        iterate 15 (refine DOps.consU fun K' hK' => ?_; simp (disch := omega) only [go_sem, f_67, f_75, f_80, ↓reduceIte]; refine hK' _ _ ?_; clear hK' K'; simp only [List.nil_append, List.cons_append])
        obtain ⟨r6, hx_82, hb_56⟩ := bind_some hb_56
        refine DOps.consC fun K' hK' => ?_; simp (disch := omega) only [go_sem, f_67, f_75, f_80, ↓reduceIte]; refine OpX.call (by rfl) (by rfl) (by kernel_rfl) (m_cocketref01_gains_ok r5 e9 _ hx_82) (by exact ⟨rfl, rfl, trivial⟩) (by simp only [go_sem, ↓reduceIte]) (by simp only [go_sem]) (by simp only [go_sem, or_true, true_or, ↓reduceIte]) ?_; simp only [go_sem, ↓reduceIte]; refine hK' _ _ ?_; clear hK' K'; simp only [List.nil_append, List.cons_append]
        iterate 1 (refine DOps.consU fun K' hK' => ?_; simp (disch := omega) only [go_sem, f_67, f_75, f_80, ↓reduceIte]; refine hK' _ _ ?_; clear hK' K'; simp only [List.nil_append, List.cons_append])
        refine DOps.nil (by kernel_rfl) ?_
        simp only [Post.then]
        refine hK_63 _ ?_
        clear hK_63 K_63
        refine AWp.cond (b := r6) (by rfl) (fun hb_83 => ?_) (fun hb_83 => ?_)
        ·rw [hb_83, cond_true] at hb_56
         refine AWp.seq fun K_84 hK_84 => AWp.draw mo [] (by trivial) ?_
         obtain ⟨e10, hx_85, hb_56⟩ := bind_some hb_56
         obtain ⟨f_86, f_87, f_88, f_89⟩ := idx_some hx_85
         iterate 5 (refine DOps.consU fun K' hK' => ?_; simp (disch := omega) only [go_sem, f_88, ↓reduceIte]; refine hK' _ _ ?_; clear hK' K'; simp only [List.nil_append, List.cons_append])
         obtain ⟨r7, hx_90, hb_56⟩ := bind_some hb_56
         refine DOps.consC fun K' hK' => ?_; simp (disch := omega) only [go_sem, f_88, ↓reduceIte]; refine OpX.call (by rfl) (by rfl) (by kernel_rfl) (m_cocketref01_rate_ok e10 _ hx_90) (by exact ⟨rfl, trivial⟩) (by simp only [go_sem, ↓reduceIte]) (by simp only [go_sem]) (by simp only [go_sem, or_true, true_or, ↓reduceIte]) ?_; simp only [go_sem, ↓reduceIte]; refine hK' _ _ ?_; clear hK' K'; simp only [List.nil_append, List.cons_append]
         obtain ⟨r8, hx_91, hb_56⟩ := bind_some hb_56
         refine DOps.consC fun K' hK' => ?_; simp (disch := omega) only [go_sem, f_88, ↓reduceIte]; refine OpX.call (by rfl) (by rfl) (by kernel_rfl) (m_cocketref01_Mul_ok c2 r7 _ hx_91) (by exact ⟨rfl, rfl, trivial⟩) (by simp only [go_sem, ↓reduceIte]) (by simp only [go_sem]) (by simp only [go_sem, or_true, true_or, ↓reduceIte]) ?_; simp only [go_sem, ↓reduceIte]; refine hK' _ _ ?_; clear hK' K'; simp only [List.nil_append, List.cons_append]
         iterate 1 (refine DOps.consU fun K' hK' => ?_; simp (disch := omega) only [go_sem, f_88, ↓reduceIte]; refine hK' _ _ ?_; clear hK' K'; simp only [List.nil_append, List.cons_append])
         refine DOps.nil (by kernel_rfl) ?_
         simp only [Post.then]
         refine hK_84 _ ?_
         clear hK_84 K_84
         refine AWp.seq fun K_92 hK_92 => AWp.reg ?_
         iterate 2 (refine AOps.consU fun K' hK' => ?_; simp (disch := omega) only [go_sem, ↓reduceIte]; refine hK' _ ?_; clear hK' K')
         refine AOps.consL fun K' hK' => ?_; simp (disch := omega) only [go_sem, ↓reduceIte]; refine hK' _ ?_; clear hK' K'
         obtain ⟨hg_93, hb_56⟩ := guardO_some hb_56
         iterate 2 (refine AOps.consU fun K' hK' => ?_; simp (disch := omega) only [go_sem, ↓reduceIte]; refine hK' _ ?_; clear hK' K')
         refine AOps.nil ?_
         simp only [Post.then]
         refine hK_92 _ ?_
         clear hK_92 K_92
         refine AWp.exit ?_
         simp only [Post.then, Post.inBlock, ↓reduceIte, Nat.reduceEqDiff]
         rw [← Option.some.inj hb_56] at hl_54
         try dsimp only at hl_54
         rw [← Option.some.inj hl_54] at h2_55
         try dsimp only at h2_55
         rw [← Option.some.inj h2_55] at hl_33
         try dsimp only at hl_33
         exact ⟨(n_32, ((L3 ++ [i1]), r8)), hl_33, Nat.lt_succ_self n_32, (Sub.mk ⟨rfl, rfl, rfl, slcl (by simp only [List.length_append, List.length_set, List.length_replicate, List.length_cons, List.length_nil, Nat.zero_add]), rfl, trivial⟩ ⟨rfl, rfl, trivial⟩ ⟨trivial, trivial, trivial, rfl, rfl, trivial⟩ ⟨row_refs _ _, ⟨trivial, trivial⟩, trivial⟩ ⟨rfl, trivial, rfl⟩)⟩
        ·rw [hb_83, cond_false] at hb_56
         refine AWp.skip ?_
         simp only [Post.then, Post.inBlock, ↓reduceIte, Nat.reduceEqDiff]
         refine hK_62 _ ?_
         clear hK_62 K_62
         refine AWp.reg ?_
         iterate 3 (refine AOps.consU fun K' hK' => ?_; simp (disch := omega) only [go_sem, ↓reduceIte]; refine hK' _ ?_; clear hK' K')
         refine AOps.nil ?_
         simp only [Post.then, Post.inBlock, ↓reduceIte, Nat.reduceEqDiff]
         rw [← Option.some.inj hb_56] at hl_54
         try dsimp only at hl_54
         exact ⟨(n_53, ((IntKind.i64.wrap (i1 + 1)), L3, c2)), hl_54, Nat.lt_succ_self n_53, (Sub.mk ⟨rfl, rfl, rfl, rfl, rfl, rfl, rfl, trivial⟩ ⟨rfl, rfl, trivial⟩ ⟨trivial, trivial, trivial, rfl, rfl, trivial, trivial, trivial⟩ ⟨row_refs _ _, ⟨trivial, trivial⟩, trivial⟩ ⟨rfl, trivial, rfl⟩)⟩
       ·rw [hg_69]
        rw [hg_69, cond_false] at hb_56
        iterate 24 (refine DOps.consU fun K' hK' => ?_; simp (disch := omega) only [go_sem, f_67, ↓reduceIte]; refine hK' _ _ ?_; clear hK' K'; simp only [List.nil_append, List.cons_append])
        refine DOps.nil (by kernel_rfl) ?_
        simp only [Post.then]
        refine hK_63 _ ?_
        clear hK_63 K_63
        refine AWp.cond (b := false) (by rfl) (fun hb_95 => ?_) (fun hb_95 => ?_)
        ·cases hb_95
        ·refine AWp.skip ?_
         simp only [Post.then, Post.inBlock, ↓reduceIte, Nat.reduceEqDiff]
         refine hK_62 _ ?_
         clear hK_62 K_62
         refine AWp.reg ?_
         iterate 3 (refine AOps.consU fun K' hK' => ?_; simp (disch := omega) only [go_sem, ↓reduceIte]; refine hK' _ ?_; clear hK' K')
         refine AOps.nil ?_
         simp only [Post.then, Post.inBlock, ↓reduceIte, Nat.reduceEqDiff]
         rw [← Option.some.inj hb_56] at hl_54
         try dsimp only at hl_54
         exact ⟨(n_53, ((IntKind.i64.wrap (i1 + 1)), L3, c2)), hl_54, Nat.lt_succ_self n_53, (Sub.mk ⟨rfl, rfl, rfl, rfl, rfl, rfl, rfl, trivial⟩ ⟨rfl, rfl, trivial⟩ ⟨trivial, trivial, trivial, rfl, rfl, trivial, trivial, trivial⟩ ⟨row_refs _ _, ⟨trivial, trivial⟩, trivial⟩ ⟨rfl, trivial, rfl⟩)⟩
      ·rw [hb_61, cond_false] at hb_56
       refine AWp.exit ?_
       simp only [Post.then, Post.inBlock, ↓reduceIte, Nat.reduceEqDiff]
       rw [← Option.some.inj hb_56] at hl_54
       try dsimp only at hl_54
       rw [← Option.some.inj hl_54] at h2_55
       try dsimp only at h2_55
       rw [← Option.some.inj h2_55] at hl_33
       try dsimp only at hl_33
       exact ⟨(n_32, (L3, c2)), hl_33, Nat.lt_succ_self n_32, (Sub.mk ⟨rfl, rfl, rfl, slcl (by simp only [List.length_append, List.length_set, List.length_replicate, List.length_cons, List.length_nil, Nat.zero_add]), rfl, trivial⟩ ⟨rfl, rfl, trivial⟩ ⟨trivial, trivial, trivial, rfl, rfl, trivial⟩ ⟨row_refs _ _, ⟨trivial, trivial⟩, trivial⟩ ⟨rfl, trivial, rfl⟩)⟩
    ·rw [hb_40, cond_false] at hb_35
     refine AWp.exit ?_
     simp only [Post.then, Post.inBlock, ↓reduceIte, Nat.reduceEqDiff]
     rw [← Option.some.inj hb_35] at hl_33
     try dsimp only at hl_33
     rw [← Option.some.inj hl_33] at h2_34
     try dsimp only at h2_34
     exact ⟨L2, (Option.some.inj h2_34).symm, (Sub.mk ⟨slcl (by simp only [List.length_append, List.length_set, List.length_replicate, List.length_cons, List.length_nil, Nat.zero_add]), trivial⟩ ⟨rfl, trivial⟩ ⟨rfl, trivial⟩ ⟨row_refs _ _, trivial⟩ ⟨rfl, trivial, rfl⟩)⟩
  ·rintro L1 hx_111
   rw [hx_111] at h
   try dsimp only at h
   try dsimp only
   refine AWp.seq fun K_109 hK_109 => AWp.reg ?_
   iterate 3 (refine AOps.consU fun K' hK' => ?_; simp (disch := omega) only [go_sem, ↓reduceIte]; refine hK' _ ?_; clear hK' K')
   refine AOps.nil ?_
   simp only [Post.then]
   refine hK_109 _ ?_
   clear hK_109 K_109
   refine AWp.ret ?_
   simp only [Post.then, Post.inBlock, Go.Pv.Fin, Go.Pv.FinG]
   rw [← Option.some.inj h]
   refine ⟨.tuple [.slc 1000 0 L1.length, .d (.bool true)], ?_, (by first | exact True.intro | rfl), .tuple [.d (.imm 1 (lenc (PD.int .i64) L1)), .d (.bool true)], ?_, ?_⟩
   ·simp only [go_sem, Tryd.results77, List.length_append, List.length_set, List.length_replicate, ↓reduceIte]
   ·simp only [go_sem, lenc_nil, List.take_length, List.length_append, List.length_set, List.length_replicate, ↓reduceIte]
   ·(first | exact leV_refl _ | (simp only [go_sem, leV, leVL, leD, leDL, lenc_nil, leD_refl, leDL_refl, lstD_le, ↓reduceIte]; done))
end Go.Pv.Tryd

namespace Go.Pv.Tryd
open Go.Proofs Go.Pv
theorem m_cocketref01_gaining_ok (n1 : Int) (l1 : (List Offer)) (r : ((List Int) × Bool)) (h : m_cocketref01_gaining n1 l1 = some r) : PureFn Tryd.prog G 49 [.d (.int .i64 n1), .d (.imm 4 (lenc Offer.pd l1))] (.tuple [.d (.imm 1 (lenc (PD.int .i64) r.1)), .d (.bool r.2)]) := by
 unfold m_cocketref01_gaining at h
 refine PureFn.intro2 Tryd.func49 (by rfl) (by rw [Tryd.ntmps49]; simp) ?_
 rw [Tryd.ntmps49]
 simp only [argEnv, reduceCtorEq, ↓reduceIte, Nat.reduceAdd, Nat.reduceMul, Nat.reduceLT, Nat.reduceLeDiff, Nat.reduceEqDiff, Nat.reduceBEq, Int.reduceToNat]
 refine AWp.seq fun K_1 hK_1 => AWp.reg ?_
 iterate 2 (refine AOps.consU fun K' hK' => ?_; simp (disch := omega) only [go_sem, ↓reduceIte]; refine hK' _ ?_; clear hK' K')
 refine AOps.nil ?_
 simp only [Post.then]
 refine hK_1 _ ?_
 clear hK_1 K_1
 refine AWp.seq fun K_2 hK_2 => AWp.reg ?_
 iterate 1 (refine AOps.consU fun K' hK' => ?_; simp (disch := omega) only [go_sem, ↓reduceIte]; refine hK' _ ?_; clear hK' K')
 refine AOps.nil ?_
 simp only [Post.then]
 refine hK_2 _ ?_
 clear hK_2 K_2
 refine AWp.sub (Sub.void 6 87 1 1000 (by rfl) (by rfl) (by decide) (by decide)) ?_
 simp only [eput, hput, reduceCtorEq, ↓reduceIte, Nat.reduceAdd, Nat.reduceMul, Nat.reduceLT, Nat.reduceLeDiff, Nat.reduceEqDiff, Nat.reduceBEq, Int.reduceToNat]
 obtain ⟨o_3, hj_4, h⟩ := bind_some h
 refine AWp.seqI (fun i_70 : (List (List (List Reach))) => ⟨[(0, .d (.int .i64 n1)), (1, .d (.imm 4 (lenc Offer.pd l1))), (6, .slc 1000 0 i_70.length)], [(1000, ⟨87, 1, dl (lenc (slenc 1 (slenc 5 Reach.pd)) i_70)⟩)], [], none⟩) (fun i_70 => o_3 = i_70) ?_ ?_
 ·refine AWp.seq fun K_5 hK_5 => AWp.reg ?_
  iterate 1 (refine AOps.consU fun K' hK' => ?_; simp (disch := omega) only [go_sem, ↓reduceIte]; refine hK' _ ?_; clear hK' K')
  refine AOps.nil ?_
  simp only [Post.then]
  refine hK_5 _ ?_
  clear hK_5 K_5
  refine AWp.block ?_
  obtain ⟨x_10, hl_7, h2_8⟩ := bind_some hj_4
  obtain ⟨n_6, hl_7⟩ := iter_some hl_7
  refine AWp.loopI (fun i_20 : Nat × (Int × (List (List (List Reach)))) => ⟨[(0, .d (.int .i64 n1)), (1, .d (.imm 4 (lenc Offer.pd l1))), (6, .slc 1000 0 i_20.2.2.length), (7, .d (.int .i64 i_20.2.1))], [(1000, ⟨87, 1, dl (lenc (slenc 1 (slenc 5 Reach.pd)) i_20.2.2)⟩)], [], none⟩) (fun i_20 => iterN (m_cocketref01_gaining_l1 n1 l1) i_20.1 i_20.2 = some x_10) (fun i_20 => i_20.1) (n_6, (0, [])) hl_7 (Sub.mk ⟨rfl, rfl, slcl (by simp only [List.length_append, List.length_set, List.length_replicate, List.length_cons, List.length_nil, Nat.zero_add]), rfl, trivial⟩ ⟨rfl, trivial⟩ ⟨trivial, trivial, rfl, trivial, trivial⟩ ⟨row_refs _ _, trivial⟩ ⟨rfl, trivial, rfl⟩) ?_
  clear hl_7
  rintro ⟨n_6, s1, L2⟩ hl_7
  try dsimp only at hl_7
  try dsimp only
  cases n_6 with
  | zero => cases hl_7
  | succ n_6 =>
   rw [iterN_succ] at hl_7
   obtain ⟨ob_11, hb_9, hl_7⟩ := bind_some hl_7
   unfold m_cocketref01_gaining_l1 at hb_9
   try dsimp only at hb_9
   refine AWp.seq fun K_12 hK_12 => ?_
   refine AWp.seq fun K_13 hK_13 => AWp.reg ?_
   iterate 3 (refine AOps.consU fun K' hK' => ?_; simp (disch := omega) only [go_sem, ↓reduceIte]; refine hK' _ ?_; clear hK' K')
   refine AOps.nil ?_
   simp only [Post.then]
   refine hK_13 _ ?_
   clear hK_13 K_13
   refine AWp.cond (b := (decide (s1 < n1))) (by rfl) (fun hb_14 => ?_) (fun hb_14 => ?_)
   ·rw [hb_14, cond_true] at hb_9
    refine AWp.skip ?_
    simp only [Post.then, Post.inBlock, ↓reduceIte, Nat.reduceEqDiff]
    refine hK_12 _ ?_
    clear hK_12 K_12
    refine AWp.seq fun K_15 hK_15 => ?_
    refine AWp.block ?_
    refine AWp.reg ?_
    iterate 5 (refine AOps.consU fun K' hK' => ?_; simp (disch := omega) only [go_sem, ↓reduceIte]; refine hK' _ ?_; clear hK' K')
    obtain ⟨r1, hx_17, hb_9⟩ := bind_some hb_9
    refine AOps.consU fun K' hK' => ?_; simp (disch := omega) only [go_sem, ↓reduceIte]; refine OpT.call (by rfl) (by rfl) (by kernel_rfl) (m_cocketref01_reaches_ok n1 l1 s1 n1 _ hx_17) (by exact ⟨rfl, rfl, rfl, rfl, trivial⟩) (by simp only [go_sem, ↓reduceIte]) ?_ (by simp only [go_sem]); simp only [go_sem, ↓reduceIte]; refine hK' _ ?_; clear hK' K'
    refine AOps.consL fun K' hK' => ?_; simp (disch := omega) only [go_sem, ↓reduceIte]; refine hK' _ ?_; clear hK' K'
    obtain ⟨hg_18, hb_9⟩ := guardO_some hb_9
    iterate 2 (refine AOps.consU fun K' hK' => ?_; simp (disch := omega) only [go_sem, ↓reduceIte]; refine hK' _ ?_; clear hK' K')
    refine AOps.nil ?_
    simp only [Post.then, Post.inBlock, ↓reduceIte, Nat.reduceEqDiff]
    refine hK_15 _ ?_
    clear hK_15 K_15
    refine AWp.reg ?_
    iterate 3 (refine AOps.consU fun K' hK' => ?_; simp (disch := omega) only [go_sem, ↓reduceIte]; refine hK' _ ?_; clear hK' K')
    refine AOps.nil ?_
    simp only [Post.then, Post.inBlock, ↓reduceIte, Nat.reduceEqDiff]
    rw [← Option.some.inj hb_9] at hl_7
    try dsimp only at hl_7
    exact ⟨(n_6, ((IntKind.i64.wrap (s1 + 1)), (L2 ++ [r1]))), hl_7, Nat.lt_succ_self n_6, (Sub.mk ⟨rfl, rfl, slcl (by simp only [List.length_append, List.length_set, List.length_replicate, List.length_cons, List.length_nil, Nat.zero_add]), rfl, trivial⟩ ⟨rfl, trivial⟩ ⟨trivial, trivial, rfl, trivial, trivial⟩ ⟨row_refs _ _, trivial⟩ ⟨rfl, trivial, rfl⟩)⟩
   ·rw [hb_14, cond_false] at hb_9
    refine AWp.exit ?_
    simp only [Post.then, Post.inBlock, ↓reduceIte, Nat.reduceEqDiff]
    rw [← Option.some.inj hb_9] at hl_7
    try dsimp only at hl_7
    rw [← Option.some.inj hl_7] at h2_8
    try dsimp only at h2_8
    exact ⟨L2, (Option.some.inj h2_8).symm, (Sub.mk ⟨rfl, rfl, slcl (by simp only [List.length_append, List.length_set, List.length_replicate, List.length_cons, List.length_nil, Nat.zero_add]), trivial⟩ ⟨rfl, trivial⟩ ⟨trivial, trivial, rfl, trivial⟩ ⟨row_refs _ _, trivial⟩ ⟨rfl, trivial, rfl⟩)⟩
 ·rintro L1 hx_71
  rw [hx_71] at h
  try dsimp only at h
  try dsimp only
  obtain ⟨o_21, hj_22, h⟩ := bind_some h
  refine AWp.seqI (fun i_68 : Unit => ⟨[], [], [], none⟩) (fun i_68 => o_21 = (.inl i_68)) ?_ ?_
  ·refine AWp.seq fun K_23 hK_23 => AWp.reg ?_
   iterate 1 (refine AOps.consU fun K' hK' => ?_; simp (disch := omega) only [go_sem, ↓reduceIte]; refine hK' _ ?_; clear hK' K')
   refine AOps.nil ?_
   simp only [Post.then]
   refine hK_23 _ ?_
   clear hK_23 K_23
   refine AWp.block ?_
   obtain ⟨x_28, hl_25, h2_26⟩ := bind_some hj_22
   obtain ⟨n_24, hl_25⟩ := iter_some hl_25
   refine AWp.loopI (fun i_66 : Nat × Int => ⟨[(0, .d (.int .i64 n1)), (1, .d (.imm 4 (lenc Offer.pd l1))), (6, .slc 1000 0 L1.length), (8, .d (.int .i64 i_66.2))], [(1000, ⟨87, 1, dl (lenc (slenc 1 (slenc 5 Reach.pd)) L1)⟩)], [], none⟩) (fun i_66 => iterN (m_cocketref01_gaining_l2 n1 l1 L1) i_66.1 i_66.2 = some x_28) (fun i_66 => i_66.1) (n_24, 2) hl_25 (Sub.mk ⟨rfl, rfl, rfl, rfl, trivial⟩ ⟨rfl, trivial⟩ ⟨trivial, trivial, rfl, trivial, trivial⟩ ⟨row_refs _ _, trivial⟩ ⟨rfl, trivial, rfl⟩) ?_
   clear hl_25
   rintro ⟨n_24, k1⟩ hl_25
   try dsimp only at hl_25
   try dsimp only
   cases n_24 with
   | zero => cases hl_25
   | succ n_24 =>
    rw [iterN_succ] at hl_25
    obtain ⟨ob_29, hb_27, hl_25⟩ := bind_some hl_25
    unfold m_cocketref01_gaining_l2 at hb_27
    try dsimp only at hb_27
    refine AWp.seq fun K_30 hK_30 => ?_
    refine AWp.seq fun K_31 hK_31 => AWp.reg ?_
    iterate 3 (refine AOps.consU fun K' hK' => ?_; simp (disch := omega) only [go_sem, ↓reduceIte]; refine hK' _ ?_; clear hK' K')
    refine AOps.nil ?_
    simp only [Post.then]
    refine hK_31 _ ?_
    clear hK_31 K_31
    refine AWp.cond (b := (decide (k1 ≤ n1))) (by rfl) (fun hb_32 => ?_) (fun hb_32 => ?_)
    ·rw [hb_32, cond_true] at hb_27
     refine AWp.skip ?_
     simp only [Post.then, Post.inBlock, ↓reduceIte, Nat.reduceEqDiff]
     refine hK_30 _ ?_
     clear hK_30 K_30
     obtain ⟨o_33, hj_34, hb_27⟩ := bind_some hb_27
     refine AWp.seqI (fun i_64 : Unit => ⟨[(0, .d (.int .i64 n1)), (1, .d (.imm 4 (lenc Offer.pd l1))), (6, .slc 1000 0 L1.length), (8, .d (.int .i64 k1))], [(1000, ⟨87, 1, dl (lenc (slenc 1 (slenc 5 Reach.pd)) L1)⟩)], [], none⟩) (fun i_64 => o_33 = (.inl i_64)) ?_ ?_
     ·refine AWp.block ?_
      refine AWp.seq fun K_35 hK_35 => AWp.reg ?_
      iterate 1 (refine AOps.consU fun K' hK' => ?_; simp (disch := omega) only [go_sem, ↓reduceIte]; refine hK' _ ?_; clear hK' K')
      refine AOps.nil ?_
      simp only [Post.then]
      refine hK_35 _ ?_
      clear hK_35 K_35
      refine AWp.block ?_
      obtain ⟨x_40, hl_37, h2_38⟩ := bind_some hj_34
      obtain ⟨n_36, hl_37⟩ := iter_some hl_37
      refine AWp.loopI (fun i_62 : Nat × Int => ⟨[(0, .d (.int .i64 n1)), (1, .d (.imm 4 (lenc Offer.pd l1))), (6, .slc 1000 0 L1.length), (8, .d (.int .i64 k1)), (9, .d (.int .i64 i_62.2))], [(1000, ⟨87, 1, dl (lenc (slenc 1 (slenc 5 Reach.pd)) L1)⟩)], [], none⟩) (fun i_62 => iterN (m_cocketref01_gaining_l3 l1 L1 k1) i_62.1 i_62.2 = some x_40) (fun i_62 => i_62.1) (n_36, 0) hl_37 (Sub.mk ⟨rfl, rfl, rfl, rfl, rfl, trivial⟩ ⟨rfl, trivial⟩ ⟨trivial, trivial, rfl, trivial, trivial, trivial⟩ ⟨row_refs _ _, trivial⟩ ⟨rfl, trivial, rfl⟩) ?_
      clear hl_37
      rintro ⟨n_36, i1⟩ hl_37
      try dsimp only at hl_37
      try dsimp only
      cases n_36 with
      | zero => cases hl_37
      | succ n_36 =>
       rw [iterN_succ] at hl_37
       obtain ⟨ob_41, hb_39, hl_37⟩ := bind_some hl_37
       unfold m_cocketref01_gaining_l3 at hb_39
       try dsimp only at hb_39
       refine AWp.seq fun K_42 hK_42 => ?_
       refine AWp.seq fun K_43 hK_43 => AWp.reg ?_
       iterate 4 (refine AOps.consU fun K' hK' => ?_; simp (disch := omega) only [go_sem, ↓reduceIte]; refine hK' _ ?_; clear hK' K')
       refine AOps.nil ?_
       simp only [Post.then]
       refine hK_43 _ ?_
       clear hK_43 K_43
       refine AWp.cond (b := (decide (i1 < (l1.length : Int)))) (by rfl) (fun hb_44 => ?_) (fun hb_44 => ?_)
       ·rw [hb_44, cond_true] at hb_39
        refine AWp.skip ?_
        simp only [Post.then, Post.inBlock, ↓reduceIte, Nat.reduceEqDiff]
        refine hK_42 _ ?_
        clear hK_42 K_42
        refine AWp.seq fun K_45 hK_45 => ?_
        refine AWp.block ?_
        refine AWp.seq fun K_46 hK_46 => AWp.reg ?_
        obtain ⟨e1, hx_47, hb_39⟩ := bind_some hb_39
        obtain ⟨f_48, f_49, f_50, f_51⟩ := idx_some hx_47
        obtain ⟨e2, hx_52, hb_39⟩ := bind_some hb_39
        obtain ⟨f_53, f_54, f_55, f_56⟩ := idx_some hx_52
        iterate 11 (refine AOps.consU fun K' hK' => ?_; simp (disch := omega) only [go_sem, f_50, f_55, ↓reduceIte]; refine hK' _ ?_; clear hK' K')
        obtain ⟨r2, hx_57, hb_39⟩ := bind_some hb_39
        refine AOps.consU fun K' hK' => ?_; simp (disch := omega) only [go_sem, f_50, f_55, ↓reduceIte]; refine OpT.call (by rfl) (by rfl) (by kernel_rfl) (m_cocketref01_closed_ok l1 e2 i1 k1 _ hx_57) (by exact ⟨rfl, rfl, rfl, rfl, trivial⟩) (by simp only [go_sem, ↓reduceIte]) ?_ (by simp only [go_sem]); simp only [go_sem, ↓reduceIte]; refine hK' _ ?_; clear hK' K'
        iterate 5 (refine AOps.consU fun K' hK' => ?_; simp (disch := omega) only [go_sem, f_50, f_55, ↓reduceIte]; refine hK' _ ?_; clear hK' K')
        refine AOps.nil ?_
        simp only [Post.then]
        refine hK_46 _ ?_
        clear hK_46 K_46
        refine AWp.seq fun K_58 hK_58 => AWp.reg ?_
        iterate 1 (refine AOps.consU fun K' hK' => ?_; simp (disch := omega) only [go_sem, ↓reduceIte]; refine hK' _ ?_; clear hK' K')
        refine AOps.nil ?_
        simp only [Post.then]
        refine hK_58 _ ?_
        clear hK_58 K_58
        refine AWp.cond (b := r2.2) (by rfl) (fun hb_59 => ?_) (fun hb_59 => ?_)
        ·rw [hb_59, cond_true] at hb_39
         refine AWp.seq fun K_60 hK_60 => AWp.reg ?_
         iterate 3 (refine AOps.consU fun K' hK' => ?_; simp (disch := omega) only [go_sem, ↓reduceIte]; refine hK' _ ?_; clear hK' K')
         refine AOps.nil ?_
         simp only [Post.then]
         refine hK_60 _ ?_
         clear hK_60 K_60
         refine AWp.ret ?_
         simp only [Post.then, Post.inBlock, Go.Pv.Fin, Go.Pv.FinG]
         rw [← Option.some.inj hb_39] at hl_37
         try dsimp only at hl_37
         rw [← Option.some.inj hl_37] at h2_38
         try dsimp only at h2_38
         rw [← Option.some.inj h2_38] at hb_27
         try dsimp only at hb_27
         rw [← Option.some.inj hb_27] at hl_25
         try dsimp only at hl_25
         rw [← Option.some.inj hl_25] at h2_26
         try dsimp only at h2_26
         rw [← Option.some.inj h2_26] at h
         try dsimp only at h
         rw [← Option.some.inj h]
         refine ⟨.tuple [.d (.imm 1 (lenc (PD.int .i64) r2.1)), .d (.bool true)], ?_, (by first | exact True.intro | rfl), .tuple [.d (.imm 1 (lenc (PD.int .i64) r2.1)), .d (.bool true)], ?_, ?_⟩
         ·simp only [go_sem, Tryd.results49, List.length_append, List.length_set, List.length_replicate, ↓reduceIte]
         ·simp only [go_sem, lenc_nil, List.take_length, List.length_append, List.length_set, List.length_replicate, ↓reduceIte]
         ·(first | exact leV_refl _ | (simp only [go_sem, leV, leVL, leD, leDL, lenc_nil, leD_refl, leDL_refl, lstD_le, ↓reduceIte]; done))
        ·rw [hb_59, cond_false] at hb_39
         refine AWp.skip ?_
         simp only [Post.then, Post.inBlock, ↓reduceIte, Nat.reduceEqDiff]
         refine hK_45 _ ?_
         clear hK_45 K_45
         refine AWp.reg ?_
         iterate 3 (refine AOps.consU fun K' hK' => ?_; simp (disch := omega) only [go_sem, ↓reduceIte]; refine hK' _ ?_; clear hK' K')
         refine AOps.nil ?_
         simp only [Post.then, Post.inBlock, ↓reduceIte, Nat.reduceEqDiff]
         rw [← Option.some.inj hb_39] at hl_37
         try dsimp only at hl_37
         exact ⟨(n_36, (IntKind.i64.wrap (i1 + 1))), hl_37, Nat.lt_succ_self n_36, (Sub.mk ⟨rfl, rfl, rfl, rfl, rfl, trivial⟩ ⟨rfl, trivial⟩ ⟨trivial, trivial, rfl, trivial, trivial, trivial⟩ ⟨row_refs _ _, trivial⟩ ⟨rfl, trivial, rfl⟩)⟩
       ·rw [hb_44, cond_false] at hb_39
        refine AWp.exit ?_
        simp only [Post.then, Post.inBlock, ↓reduceIte, Nat.reduceEqDiff]
        rw [← Option.some.inj hb_39] at hl_37
        try dsimp only at hl_37
        rw [← Option.some.inj hl_37] at h2_38
        try dsimp only at h2_38
        exact ⟨(), (Option.some.inj h2_38).symm, (Sub.mk ⟨rfl, rfl, rfl, rfl, trivial⟩ ⟨rfl, trivial⟩ ⟨trivial, trivial, rfl, trivial, trivial⟩ ⟨row_refs _ _, trivial⟩ ⟨rfl, trivial, rfl⟩)⟩
     ·rintro _ hx_65
      rw [hx_65] at hb_27
      try dsimp only at hb_27
      try dsimp only
      refine AWp.reg ?_
      iterate 3 (refine AOps.consU fun K' hK' => ?_; simp (disch := omega) only [go_sem, ↓reduceIte]; refine hK' _ ?_; clear hK' K')
      refine AOps.nil ?_
      simp only [Post.then, Post.inBlock, ↓reduceIte, Nat.reduceEqDiff]
      rw [← Option.some.inj hb_27] at hl_25
      try dsimp only at hl_25
      exact ⟨(n_24, (IntKind.i64.wrap (k1 + 1))), hl_25, Nat.lt_succ_self n_24, (Sub.mk ⟨rfl, rfl, rfl, rfl, trivial⟩ ⟨rfl, trivial⟩ ⟨trivial, trivial, rfl, trivial, trivial⟩ ⟨row_refs _ _, trivial⟩ ⟨rfl, trivial, rfl⟩)⟩
    ·rw [hb_32, cond_false] at hb_27
     refine AWp.exit ?_
     simp only [Post.then, Post.inBlock, ↓reduceIte, Nat.reduceEqDiff]
     rw [← Option.some.inj hb_27] at hl_25
     try dsimp only at hl_25
     rw [← Option.some.inj hl_25] at h2_26
     try dsimp only at h2_26
     exact ⟨(), (Option.some.inj h2_26).symm, (Sub.mk trivial trivial trivial trivial ⟨rfl, trivial, rfl⟩)⟩
  ·rintro _ hx_69
   rw [hx_69] at h
   try dsimp only at h
   try dsimp only
   refine AWp.seq fun K_67 hK_67 => AWp.reg ?_
   iterate 2 (refine AOps.consU fun K' hK' => ?_; simp (disch := omega) only [go_sem, ↓reduceIte]; refine hK' _ ?_; clear hK' K')
   refine AOps.nil ?_
   simp only [Post.then]
   refine hK_67 _ ?_
   clear hK_67 K_67
   refine AWp.ret ?_
   simp only [Post.then, Post.inBlock, Go.Pv.Fin, Go.Pv.FinG]
   rw [← Option.some.inj h]
   refine ⟨.tuple [.d .nilslice, .d (.bool false)], ?_, (by first | exact True.intro | rfl), .tuple [.d .nilslice, .d (.bool false)], ?_, ?_⟩
   ·simp only [go_sem, Tryd.results49, List.length_append, List.length_set, List.length_replicate, ↓reduceIte]
   ·simp only [go_sem, lenc_nil, List.take_length, List.length_append, List.length_set, List.length_replicate, ↓reduceIte]
   ·(first | exact leV_refl _ | (simp only [go_sem, leV, leVL, leD, leDL, lenc_nil, leD_refl, leDL_refl, lstD_le, ↓reduceIte]; done))
end Go.Pv.Tryd

namespace Go.Pv.Tryd
open Go.Proofs Go.Pv
theorem m_cocketref01_Within_ok (a1 : Big) (most1 : Int) (r : (Int × Bool)) (h : m_cocketref01_Within a1 most1 = some r) : PureFn Tryd.prog G 78 [.d (.agg [(.bool a1.Neg), (.imm 1 (lenc (PD.int .i64) a1.D))]), .d (.int .i64 most1)] (.tuple [.d (.int .i64 r.1), .d (.bool r.2)]) := by
 unfold m_cocketref01_Within at h
 refine PureFn.intro2 Tryd.func78 (by rfl) (by rw [Tryd.ntmps78]; simp) ?_
 rw [Tryd.ntmps78]
 simp only [argEnv, reduceCtorEq, ↓reduceIte, Nat.reduceAdd, Nat.reduceMul, Nat.reduceLT, Nat.reduceLeDiff, Nat.reduceEqDiff, Nat.reduceBEq, Int.reduceToNat]
 refine AWp.seq fun K_1 hK_1 => AWp.reg ?_
 iterate 3 (refine AOps.consU fun K' hK' => ?_; simp (disch := omega) only [go_sem, ↓reduceIte]; refine hK' _ ?_; clear hK' K')
 refine AOps.nil ?_
 simp only [Post.then]
 refine hK_1 _ ?_
 clear hK_1 K_1
 refine AWp.seq fun K_2 hK_2 => ?_
 refine AWp.seq fun K_3 hK_3 => AWp.draw mo [] (by trivial) ?_
 iterate 3 (refine DOps.consU fun K' hK' => ?_; simp (disch := omega) only [go_sem, ↓reduceIte]; refine hK' _ _ ?_; clear hK' K'; simp only [List.nil_append, List.cons_append])
 obtain ⟨r1, hx_4, h⟩ := bind_some h
 refine DOps.consC fun K' hK' => ?_; simp (disch := omega) only [go_sem, ↓reduceIte]; refine OpX.call (by rfl) (by rfl) (by kernel_rfl) (m_cocketref01_Of_ok most1 _ hx_4) (by exact ⟨rfl, trivial⟩) (by simp only [go_sem, ↓reduceIte]) (by simp only [go_sem]) (by simp only [go_sem, or_true, true_or, ↓reduceIte]) ?_; simp only [go_sem, ↓reduceIte]; refine hK' _ _ ?_; clear hK' K'; simp only [List.nil_append, List.cons_append]
 iterate 1 (refine DOps.consU fun K' hK' => ?_; simp (disch := omega) only [go_sem, ↓reduceIte]; refine hK' _ _ ?_; clear hK' K'; simp only [List.nil_append, List.cons_append])
 obtain ⟨r2, hx_5, h⟩ := bind_some h
 refine DOps.consC fun K' hK' => ?_; simp (disch := omega) only [go_sem, ↓reduceIte]; refine OpX.call (by rfl) (by rfl) (by kernel_rfl) (m_cocketref01_cmpD_ok a1.D r1.D _ hx_5) (by exact ⟨rfl, rfl, trivial⟩) (by simp only [go_sem, ↓reduceIte]) (by simp only [go_sem]) (by simp only [go_sem, or_true, true_or, ↓reduceIte]) ?_; simp only [go_sem, ↓reduceIte]; refine hK' _ _ ?_; clear hK' K'; simp only [List.nil_append, List.cons_append]
 iterate 1 (refine DOps.consU fun K' hK' => ?_; simp (disch := omega) only [go_sem, ↓reduceIte]; refine hK' _ _ ?_; clear hK' K'; simp only [List.nil_append, List.cons_append])
 refine DOps.nil (by kernel_rfl) ?_
 simp only [Post.then]
 refine hK_3 _ ?_
 clear hK_3 K_3
 refine AWp.cond (b := (decide (0 < r2))) (by rfl) (fun hb_6 => ?_) (fun hb_6 => ?_)
 ·rw [hb_6, cond_true] at h
  refine AWp.seq fun K_7 hK_7 => AWp.reg ?_
  iterate 2 (refine AOps.consU fun K' hK' => ?_; simp (disch := omega) only [go_sem, ↓reduceIte]; refine hK' _ ?_; clear hK' K')
  refine AOps.nil ?_
  simp only [Post.then]
  refine hK_7 _ ?_
  clear hK_7 K_7
  refine AWp.ret ?_
  simp only [Post.then, Post.inBlock, Go.Pv.Fin, Go.Pv.FinG]
  rw [← Option.some.inj h]
  refine ⟨.tuple [.d (.int .i64 0), .d (.bool false)], ?_, (by first | exact True.intro | rfl), .tuple [.d (.int .i64 0), .d (.bool false)], ?_, ?_⟩
  ·simp only [go_sem, Tryd.results78, List.length_append, List.length_set, List.length_replicate, ↓reduceIte]
  ·simp only [go_sem, lenc_nil, List.take_length, List.length_append, List.length_set, List.length_replicate, ↓reduceIte]
  ·(first | exact leV_refl _ | (simp only [go_sem, leV, leVL, leD, leDL, lenc_nil, leD_refl, leDL_refl, lstD_le, ↓reduceIte]; done))
 ·rw [hb_6, cond_false] at h
  refine AWp.skip ?_
  simp only [Post.then, Post.inBlock, ↓reduceIte, Nat.reduceEqDiff]
  refine hK_2 _ ?_
  clear hK_2 K_2
  refine AWp.seq fun K_8 hK_8 => AWp.reg ?_
  iterate 1 (refine AOps.consU fun K' hK' => ?_; simp (disch := omega) only [go_sem, ↓reduceIte]; refine hK' _ ?_; clear hK' K')
  refine AOps.nil ?_
  simp only [Post.then]
  refine hK_8 _ ?_
  clear hK_8 K_8
  obtain ⟨o_9, hj_10, h⟩ := bind_some h
  refine AWp.seqI (fun i_38 : Int => ⟨[(2, .ptr 1000 0 0), (6, .d (.int .i64 i_38))], [(1000, ⟨57, 2, [.d (.agg [(.bool a1.Neg), (.imm 1 (lenc (PD.int .i64) a1.D))])]⟩)], [], none⟩) (fun i_38 => o_9 = i_38) ?_ ?_
  ·refine AWp.seq fun K_11 hK_11 => AWp.reg ?_
   iterate 5 (refine AOps.consU fun K' hK' => ?_; simp (disch := omega) only [go_sem, ↓reduceIte]; refine hK' _ ?_; clear hK' K')
   refine AOps.nil ?_
   simp only [Post.then]
   refine hK_11 _ ?_
   clear hK_11 K_11
   refine AWp.block ?_
   obtain ⟨x_16, hl_13, h2_14⟩ := bind_some hj_10
   obtain ⟨n_12, hl_13⟩ := iter_some hl_13
   refine AWp.loopI (fun i_29 : Nat × (Int × Int) => ⟨[(2, .ptr 1000 0 0), (6, .d (.int .i64 i_29.2.1)), (7, .d (.int .i64 i_29.2.2))], [(1000, ⟨57, 2, [.d (.agg [(.bool a1.Neg), (.imm 1 (lenc (PD.int .i64) a1.D))])]⟩)], [], none⟩) (fun i_29 => iterN (m_cocketref01_Within_l1 a1) i_29.1 i_29.2 = some x_16) (fun i_29 => i_29.1) (n_12, (0, (IntKind.i64.wrap ((a1.D.length : Int) - 1)))) hl_13 (Sub.mk ⟨rfl, rfl, rfl, trivial⟩ ⟨rfl, trivial⟩ ⟨rfl, trivial, trivial, trivial⟩ ⟨⟨trivial, trivial⟩, trivial⟩ ⟨rfl, trivial, rfl⟩) ?_
   clear hl_13
   rintro ⟨n_12, n2, i1⟩ hl_13
   try dsimp only at hl_13
   try dsimp only
   cases n_12 with
   | zero => cases hl_13
   | succ n_12 =>
    rw [iterN_succ] at hl_13
    obtain ⟨ob_17, hb_15, hl_13⟩ := bind_some hl_13
    unfold m_cocketref01_Within_l1 at hb_15
    try dsimp only at hb_15
    refine AWp.seq fun K_18 hK_18 => ?_
    refine AWp.seq fun K_19 hK_19 => AWp.reg ?_
    iterate 2 (refine AOps.consU fun K' hK' => ?_; simp (disch := omega) only [go_sem, ↓reduceIte]; refine hK' _ ?_; clear hK' K')
    refine AOps.nil ?_
    simp only [Post.then]
    refine hK_19 _ ?_
    clear hK_19 K_19
    refine AWp.cond (b := (decide (0 ≤ i1))) (by rfl) (fun hb_20 => ?_) (fun hb_20 => ?_)
    ·rw [hb_20, cond_true] at hb_15
     refine AWp.skip ?_
     simp only [Post.then, Post.inBlock, ↓reduceIte, Nat.reduceEqDiff]
     refine hK_18 _ ?_
     clear hK_18 K_18
     refine AWp.seq fun K_21 hK_21 => ?_
     refine AWp.block ?_
     refine AWp.reg ?_
     obtain ⟨e1, hx_23, hb_15⟩ := bind_some hb_15
     obtain ⟨f_24, f_25, f_26, f_27⟩ := idx_some hx_23
     iterate 9 (refine AOps.consU fun K' hK' => ?_; simp (disch := omega) only [go_sem, f_26, ↓reduceIte]; refine hK' _ ?_; clear hK' K')
     refine AOps.nil ?_
     simp only [Post.then, Post.inBlock, ↓reduceIte, Nat.reduceEqDiff]
     refine hK_21 _ ?_
     clear hK_21 K_21
     refine AWp.reg ?_
     iterate 3 (refine AOps.consU fun K' hK' => ?_; simp (disch := omega) only [go_sem, ↓reduceIte]; refine hK' _ ?_; clear hK' K')
     refine AOps.nil ?_
     simp only [Post.then, Post.inBlock, ↓reduceIte, Nat.reduceEqDiff]
     rw [← Option.some.inj hb_15] at hl_13
     try dsimp only at hl_13
     exact ⟨(n_12, ((IntKind.i64.wrap ((IntKind.i64.wrap (n2 * 10000)) + e1)), (IntKind.i64.wrap (i1 - 1)))), hl_13, Nat.lt_succ_self n_12, (Sub.mk ⟨rfl, rfl, rfl, trivial⟩ ⟨rfl, trivial⟩ ⟨rfl, trivial, trivial, trivial⟩ ⟨⟨trivial, trivial⟩, trivial⟩ ⟨rfl, trivial, rfl⟩)⟩
    ·rw [hb_20, cond_false] at hb_15
     refine AWp.exit ?_
     simp only [Post.then, Post.inBlock, ↓reduceIte, Nat.reduceEqDiff]
     rw [← Option.some.inj hb_15] at hl_13
     try dsimp only at hl_13
     rw [← Option.some.inj hl_13] at h2_14
     try dsimp only at h2_14
     exact ⟨n2, (Option.some.inj h2_14).symm, (Sub.mk ⟨rfl, rfl, trivial⟩ ⟨rfl, trivial⟩ ⟨rfl, trivial, trivial⟩ ⟨⟨trivial, trivial⟩, trivial⟩ ⟨rfl, trivial, rfl⟩)⟩
  ·rintro n1 hx_39
   rw [hx_39] at h
   try dsimp only at h
   try dsimp only
   obtain ⟨o_30, hj_31, h⟩ := bind_some h
   refine AWp.seqI (fun i_36 : Int => ⟨[(6, .d (.int .i64 i_36))], [], [], none⟩) (fun i_36 => o_30 = i_36) ?_ ?_
   ·refine AWp.seq fun K_32 hK_32 => AWp.reg ?_
    iterate 2 (refine AOps.consU fun K' hK' => ?_; simp (disch := omega) only [go_sem, ↓reduceIte]; refine hK' _ ?_; clear hK' K')
    refine AOps.nil ?_
    simp only [Post.then]
    refine hK_32 _ ?_
    clear hK_32 K_32
    refine AWp.cond (b := a1.Neg) (by rfl) (fun hb_33 => ?_) (fun hb_33 => ?_)
    ·rw [hb_33, cond_true] at hj_31
     refine AWp.reg ?_
     iterate 3 (refine AOps.consU fun K' hK' => ?_; simp (disch := omega) only [go_sem, ↓reduceIte]; refine hK' _ ?_; clear hK' K')
     refine AOps.nil ?_
     simp only [Post.then, Post.inBlock, ↓reduceIte, Nat.reduceEqDiff]
     exact ⟨(IntKind.i64.wrap (0 - n1)), (Option.some.inj hj_31).symm, (Sub.mk ⟨rfl, trivial⟩ trivial ⟨trivial, trivial⟩ trivial ⟨rfl, trivial, rfl⟩)⟩
    ·rw [hb_33, cond_false] at hj_31
     refine AWp.skip ?_
     simp only [Post.then, Post.inBlock, ↓reduceIte, Nat.reduceEqDiff]
     exact ⟨n1, (Option.some.inj hj_31).symm, (Sub.mk ⟨rfl, trivial⟩ trivial ⟨trivial, trivial⟩ trivial ⟨rfl, trivial, rfl⟩)⟩
   ·rintro n3 hx_37
    rw [hx_37] at h
    try dsimp only at h
    try dsimp only
    refine AWp.seq fun K_35 hK_35 => AWp.reg ?_
    iterate 3 (refine AOps.consU fun K' hK' => ?_; simp (disch := omega) only [go_sem, ↓reduceIte]; refine hK' _ ?_; clear hK' K')
    refine AOps.nil ?_
    simp only [Post.then]
    refine hK_35 _ ?_
    clear hK_35 K_35
    refine AWp.ret ?_
    simp only [Post.then, Post.inBlock, Go.Pv.Fin, Go.Pv.FinG]
    rw [← Option.some.inj h]
    refine ⟨.tuple [.d (.int .i64 n3), .d (.bool true)], ?_, (by first | exact True.intro | rfl), .tuple [.d (.int .i64 n3), .d (.bool true)], ?_, ?_⟩
    ·simp only [go_sem, Tryd.results78, List.length_append, List.length_set, List.length_replicate, ↓reduceIte]
    ·simp only [go_sem, lenc_nil, List.take_length, List.length_append, List.length_set, List.length_replicate, ↓reduceIte]
    ·(first | exact leV_refl _ | (simp only [go_sem, leV, leVL, leD, leDL, lenc_nil, leD_refl, leDL_refl, lstD_le, ↓reduceIte]; done))
end Go.Pv.Tryd

namespace Go.Pv.Tryd
open Go.Proofs Go.Pv
theorem m_cocketref01_ToRatio_ok (a1 : Q) (most1 : Int) (r : (Ratio × Bool)) (h : m_cocketref01_ToRatio a1 most1 = some r) : PureFn Tryd.prog G 51 [.d (.agg [(.bool a1.N.Neg), (.imm 1 (lenc (PD.int .i64) a1.N.D)), (.bool a1.D.Neg), (.imm 1 (lenc (PD.int .i64) a1.D.D))]), .d (.int .i64 most1)] (.tuple [.d (.agg [(.int .i64 r.1.Num), (.int .i64 r.1.Den)]), .d (.bool r.2)]) := by
 unfold m_cocketref01_ToRatio at h
 refine PureFn.intro2 Tryd.func51 (by rfl) (by rw [Tryd.ntmps51]; simp) ?_
 rw [Tryd.ntmps51]
 simp only [argEnv, reduceCtorEq, ↓reduceIte, Nat.reduceAdd, Nat.reduceMul, Nat.reduceLT, Nat.reduceLeDiff, Nat.reduceEqDiff, Nat.reduceBEq, Int.reduceToNat]
 refine AWp.seq fun K_1 hK_1 => AWp.reg ?_
 iterate 3 (refine AOps.consU fun K' hK' => ?_; simp (disch := omega) only [go_sem, ↓reduceIte]; refine hK' _ ?_; clear hK' K')
 refine AOps.nil ?_
 simp only [Post.then]
 refine hK_1 _ ?_
 clear hK_1 K_1
 refine AWp.seq fun K_2 hK_2 => AWp.reg ?_
 iterate 3 (refine AOps.consU fun K' hK' => ?_; simp (disch := omega) only [go_sem, ↓reduceIte]; refine hK' _ ?_; clear hK' K')
 obtain ⟨r1, hx_3, h⟩ := bind_some h
 refine AOps.consU fun K' hK' => ?_; simp (disch := omega) only [go_sem, ↓reduceIte]; refine OpT.call (by rfl) (by rfl) (by kernel_rfl) (m_cocketref01_Within_ok a1.N most1 _ hx_3) (by exact ⟨rfl, rfl, trivial⟩) (by simp only [go_sem, ↓reduceIte]) ?_ (by simp only [go_sem]); simp only [go_sem, ↓reduceIte]; refine hK' _ ?_; clear hK' K'
 iterate 5 (refine AOps.consU fun K' hK' => ?_; simp (disch := omega) only [go_sem, ↓reduceIte]; refine hK' _ ?_; clear hK' K')
 refine AOps.nil ?_
 simp only [Post.then]
 refine hK_2 _ ?_
 clear hK_2 K_2
 refine AWp.seq fun K_4 hK_4 => AWp.reg ?_
 iterate 3 (refine AOps.consU fun K' hK' => ?_; simp (disch := omega) only [go_sem, ↓reduceIte]; refine hK' _ ?_; clear hK' K')
 obtain ⟨r2, hx_5, h⟩ := bind_some h
 refine AOps.consU fun K' hK' => ?_; simp (disch := omega) only [go_sem, ↓reduceIte]; refine OpT.call (by rfl) (by rfl) (by kernel_rfl) (m_cocketref01_Within_ok a1.D most1 _ hx_5) (by exact ⟨rfl, rfl, trivial⟩) (by simp only [go_sem, ↓reduceIte]) ?_ (by simp only [go_sem]); simp only [go_sem, ↓reduceIte]; refine hK' _ ?_; clear hK' K'
 iterate 5 (refine AOps.consU fun K' hK' => ?_; simp (disch := omega) only [go_sem, ↓reduceIte]; refine hK' _ ?_; clear hK' K')
 refine AOps.nil ?_
 simp only [Post.then]
 refine hK_4 _ ?_
 clear hK_4 K_4
 refine AWp.seq fun K_6 hK_6 => ?_
 refine AWp.seq fun K_7 hK_7 => AWp.reg ?_
 iterate 3 (refine AOps.consU fun K' hK' => ?_; simp (disch := omega) only [go_sem, ↓reduceIte]; refine hK' _ ?_; clear hK' K')
 refine AOps.cut 3 (⟨[(4, .ptr 1001 0 0), (6, .d (.int .i64 r1.1)), (8, .d (.int .i64 r2.1)), (29, .d (.bool ((!r1.2) || (!r2.2))))], [(1001, ⟨26, 2, [.d (.agg [(.int .i64 0), (.int .i64 0)])]⟩)], [], none⟩) ?_ ?_
 ·simp only [List.take_succ_cons, List.take_zero]
  rcases Bool.eq_false_or_eq_true (!r1.2) with hg_9 | hg_9
  ·rw [hg_9]
   iterate 3 (refine AOps.consU fun K' hK' => ?_; simp (disch := omega) only [go_sem, ↓reduceIte]; refine hK' _ ?_; clear hK' K')
   refine AOps.nil ?_
   exact (Sub.mk ⟨rfl, rfl, rfl, rfl, trivial⟩ ⟨rfl, trivial⟩ ⟨rfl, trivial, trivial, trivial, trivial⟩ ⟨⟨trivial, trivial⟩, trivial⟩ ⟨rfl, trivial, rfl⟩)
  ·rw [hg_9]
   iterate 3 (refine AOps.consU fun K' hK' => ?_; simp (disch := omega) only [go_sem, ↓reduceIte]; refine hK' _ ?_; clear hK' K')
   refine AOps.nil ?_
   exact (Sub.mk ⟨rfl, rfl, rfl, rfl, trivial⟩ ⟨rfl, trivial⟩ ⟨rfl, trivial, trivial, trivial, trivial⟩ ⟨⟨trivial, trivial⟩, trivial⟩ ⟨rfl, trivial, rfl⟩)
 simp only [List.drop_succ_cons, List.drop_zero]
 refine AOps.nil ?_
 simp only [Post.then]
 refine hK_7 _ ?_
 clear hK_7 K_7
 refine AWp.cond (b := ((!r1.2) || (!r2.2))) (by rfl) (fun hb_10 => ?_) (fun hb_10 => ?_)
 ·rw [hb_10, cond_true] at h
  refine AWp.seq fun K_11 hK_11 => AWp.reg ?_
  iterate 3 (refine AOps.consU fun K' hK' => ?_; simp (disch := omega) only [go_sem, ↓reduceIte]; refine hK' _ ?_; clear hK' K')
  refine AOps.nil ?_
  simp only [Post.then]
  refine hK_11 _ ?_
  clear hK_11 K_11
  refine AWp.ret ?_
  simp only [Post.then, Post.inBlock, Go.Pv.Fin, Go.Pv.FinG]
  rw [← Option.some.inj h]
  refine ⟨.tuple [.d (.agg [(.int .i64 0), (.int .i64 0)]), .d (.bool false)], ?_, (by first | exact True.intro | rfl), .tuple [.d (.agg [(.int .i64 0), (.int .i64 0)]), .d (.bool false)], ?_, ?_⟩
  ·simp only [go_sem, Tryd.results51, List.length_append, List.length_set, List.length_replicate, ↓reduceIte]
  ·simp only [go_sem, lenc_nil, List.take_length, List.length_append, List.length_set, List.length_replicate, ↓reduceIte]
  ·(first | exact leV_refl _ | (simp only [go_sem, leV, leVL, leD, leDL, lenc_nil, leD_refl, leDL_refl, lstD_le, ↓reduceIte]; done))
 ·rw [hb_10, cond_false] at h
  refine AWp.skip ?_
  simp only [Post.then, Post.inBlock, ↓reduceIte, Nat.reduceEqDiff]
  refine hK_6 _ ?_
  clear hK_6 K_6
  refine AWp.seq fun K_12 hK_12 => AWp.reg ?_
  iterate 5 (refine AOps.consU fun K' hK' => ?_; simp (disch := omega) only [go_sem, ↓reduceIte]; refine hK' _ ?_; clear hK' K')
  refine AOps.nil ?_
  simp only [Post.then]
  refine hK_12 _ ?_
  clear hK_12 K_12
  refine AWp.ret ?_
  simp only [Post.then, Post.inBlock, Go.Pv.Fin, Go.Pv.FinG]
  rw [← Option.some.inj h]
  refine ⟨.tuple [.d (.agg [(.int .i64 r1.1), (.int .i64 r2.1)]), .d (.bool true)], ?_, (by first | exact True.intro | rfl), .tuple [.d (.agg [(.int .i64 r1.1), (.int .i64 r2.1)]), .d (.bool true)], ?_, ?_⟩
  ·simp only [go_sem, Tryd.results51, List.length_append, List.length_set, List.length_replicate, ↓reduceIte]
  ·simp only [go_sem, lenc_nil, List.take_length, List.length_append, List.length_set, List.length_replicate, ↓reduceIte]
  ·(first | exact leV_refl _ | (simp only [go_sem, leV, leVL, leD, leDL, lenc_nil, leD_refl, leDL_refl, lstD_le, ↓reduceIte]; done))
end Go.Pv.Tryd

namespace Go.Pv.Tryd
open Go.Proofs Go.Pv
theorem m_cocketref01_Prices_ok (n1 : Int) (l1 : (List Offer)) (r : ((List Ratio) × Int)) (h : m_cocketref01_Prices n1 l1 = some r) : PureFn Tryd.prog G 24 [.d (.int .i64 n1), .d (.imm 4 (lenc Offer.pd l1))] (.tuple [.d (.imm 2 (lenc Ratio.pd r.1)), .d (.int .i64 r.2)]) := by
 unfold m_cocketref01_Prices at h
 refine PureFn.intro2 Tryd.func24 (by rfl) (by rw [Tryd.ntmps24]; simp) ?_
 rw [Tryd.ntmps24]
 simp only [argEnv, reduceCtorEq, ↓reduceIte, Nat.reduceAdd, Nat.reduceMul, Nat.reduceLT, Nat.reduceLeDiff, Nat.reduceEqDiff, Nat.reduceBEq, Int.reduceToNat]
 refine AWp.seq fun K_1 hK_1 => AWp.reg ?_
 iterate 2 (refine AOps.consU fun K' hK' => ?_; simp (disch := omega) only [go_sem, ↓reduceIte]; refine hK' _ ?_; clear hK' K')
 refine AOps.nil ?_
 simp only [Post.then]
 refine hK_1 _ ?_
 clear hK_1 K_1
 refine AWp.seq fun K_2 hK_2 => AWp.reg ?_
 iterate 2 (refine AOps.consU fun K' hK' => ?_; simp (disch := omega) only [go_sem, ↓reduceIte]; refine hK' _ ?_; clear hK' K')
 obtain ⟨r1, hx_3, h⟩ := bind_some h
 refine AOps.consU fun K' hK' => ?_; simp (disch := omega) only [go_sem, ↓reduceIte]; refine OpT.call (by rfl) (by rfl) (by kernel_rfl) (m_cocketref01_Good_ok n1 l1 _ hx_3) (by exact ⟨rfl, rfl, trivial⟩) (by simp only [go_sem, ↓reduceIte]) ?_ (by simp only [go_sem]); simp only [go_sem, ↓reduceIte]; refine hK' _ ?_; clear hK' K'
 iterate 1 (refine AOps.consU fun K' hK' => ?_; simp (disch := omega) only [go_sem, ↓reduceIte]; refine hK' _ ?_; clear hK' K')
 refine AOps.nil ?_
 simp only [Post.then]
 refine hK_2 _ ?_
 clear hK_2 K_2
 refine AWp.seq fun K_4 hK_4 => ?_
 refine AWp.seq fun K_5 hK_5 => AWp.reg ?_
 iterate 2 (refine AOps.consU fun K' hK' => ?_; simp (disch := omega) only [go_sem, ↓reduceIte]; refine hK' _ ?_; clear hK' K')
 refine AOps.nil ?_
 simp only [Post.then]
 refine hK_5 _ ?_
 clear hK_5 K_5
 refine AWp.cond (b := (decide (¬r1 = 0))) (by rfl) (fun hb_6 => ?_) (fun hb_6 => ?_)
 ·rw [hb_6, cond_true] at h
  refine AWp.seq fun K_7 hK_7 => AWp.reg ?_
  iterate 3 (refine AOps.consU fun K' hK' => ?_; simp (disch := omega) only [go_sem, ↓reduceIte]; refine hK' _ ?_; clear hK' K')
  refine AOps.nil ?_
  simp only [Post.then]
  refine hK_7 _ ?_
  clear hK_7 K_7
  refine AWp.ret ?_
  simp only [Post.then, Post.inBlock, Go.Pv.Fin, Go.Pv.FinG]
  rw [← Option.some.inj h]
  refine ⟨.tuple [.d .nilslice, .d (.int .i64 r1)], ?_, (by first | exact True.intro | rfl), .tuple [.d .nilslice, .d (.int .i64 r1)], ?_, ?_⟩
  ·simp only [go_sem, Tryd.results24, List.length_append, List.length_set, List.length_replicate, ↓reduceIte]
  ·simp only [go_sem, lenc_nil, List.take_length, List.length_append, List.length_set, List.length_replicate, ↓reduceIte]
  ·(first | exact leV_refl _ | (simp only [go_sem, leV, leVL, leD, leDL, lenc_nil, leD_refl, leDL_refl, lstD_le, ↓reduceIte]; done))
 ·rw [hb_6, cond_false] at h
  refine AWp.skip ?_
  simp only [Post.then, Post.inBlock, ↓reduceIte, Nat.reduceEqDiff]
  refine hK_4 _ ?_
  clear hK_4 K_4
  refine AWp.seq fun K_8 hK_8 => AWp.reg ?_
  iterate 2 (refine AOps.consU fun K' hK' => ?_; simp (disch := omega) only [go_sem, ↓reduceIte]; refine hK' _ ?_; clear hK' K')
  obtain ⟨r2, hx_9, h⟩ := bind_some h
  refine AOps.consU fun K' hK' => ?_; simp (disch := omega) only [go_sem, ↓reduceIte]; refine OpT.call (by rfl) (by rfl) (by kernel_rfl) (m_cocketref01_gaining_ok n1 l1 _ hx_9) (by exact ⟨rfl, rfl, trivial⟩) (by simp only [go_sem, ↓reduceIte]) ?_ (by simp only [go_sem]); simp only [go_sem, ↓reduceIte]; refine hK' _ ?_; clear hK' K'
  iterate 5 (refine AOps.consU fun K' hK' => ?_; simp (disch := omega) only [go_sem, ↓reduceIte]; refine hK' _ ?_; clear hK' K')
  refine AOps.nil ?_
  simp only [Post.then]
  refine hK_8 _ ?_
  clear hK_8 K_8
  refine AWp.seq fun K_10 hK_10 => ?_
  refine AWp.seq fun K_11 hK_11 => AWp.reg ?_
  iterate 1 (refine AOps.consU fun K' hK' => ?_; simp (disch := omega) only [go_sem, ↓reduceIte]; refine hK' _ ?_; clear hK' K')
  refine AOps.nil ?_
  simp only [Post.then]
  refine hK_11 _ ?_
  clear hK_11 K_11
  refine AWp.cond (b := r2.2) (by rfl) (fun hb_12 => ?_) (fun hb_12 => ?_)
  ·rw [hb_12, cond_true] at h
   refine AWp.seq fun K_13 hK_13 => AWp.reg ?_
   iterate 2 (refine AOps.consU fun K' hK' => ?_; simp (disch := omega) only [go_sem, ↓reduceIte]; refine hK' _ ?_; clear hK' K')
   refine AOps.nil ?_
   simp only [Post.then]
   refine hK_13 _ ?_
   clear hK_13 K_13
   refine AWp.ret ?_
   simp only [Post.then, Post.inBlock, Go.Pv.Fin, Go.Pv.FinG]
   rw [← Option.some.inj h]
   refine ⟨.tuple [.d .nilslice, .d (.int .i64 10)], ?_, (by first | exact True.intro | rfl), .tuple [.d .nilslice, .d (.int .i64 10)], ?_, ?_⟩
   ·simp only [go_sem, Tryd.results24, List.length_append, List.length_set, List.length_replicate, ↓reduceIte]
   ·simp only [go_sem, lenc_nil, List.take_length, List.length_append, List.length_set, List.length_replicate, ↓reduceIte]
   ·(first | exact leV_refl _ | (simp only [go_sem, leV, leVL, leD, leDL, lenc_nil, leD_refl, leDL_refl, lstD_le, ↓reduceIte]; done))
  ·rw [hb_12, cond_false] at h
   refine AWp.skip ?_
   simp only [Post.then, Post.inBlock, ↓reduceIte, Nat.reduceEqDiff]
   refine hK_10 _ ?_
   clear hK_10 K_10
   refine AWp.seq fun K_14 hK_14 => AWp.reg ?_
   obtain ⟨hg_15, h⟩ := guardO_some h
   iterate 2 (refine AOps.consU fun K' hK' => ?_; simp (disch := omega) only [go_sem, ↓reduceIte]; refine hK' _ ?_; clear hK' K')
   refine AOps.sub (τ := ⟨[(0, .d (.int .i64 n1)), (1, .d (.imm 4 (lenc Offer.pd l1))), (32, .slc 1000 0 ((n1).toNat))], [(1000, ⟨90, 5, dl (lenc Reach.pd (List.replicate (n1).toNat (⟨false, ⟨⟨false, []⟩, ⟨false, []⟩⟩⟩ : Reach)))⟩)], [], none⟩) (Sub.cvh ⟨⟨_, rfl, rfl, rfl, leVL_rep (by simp only [go_sem, leD, leDL, lenc_nil, leD_refl, leDL_refl, and_self, and_true]) _⟩, trivial⟩ ⟨rfl, trivial⟩ ⟨.inl ⟨leV_refl _, trivial⟩, .inl ⟨leV_refl _, trivial⟩, .inl ⟨leV_refl _, rfl⟩, trivial⟩ ⟨row_refs _ _, trivial⟩ ⟨rfl, trivial, rfl⟩) ?_
   iterate 1 (refine AOps.consU fun K' hK' => ?_; simp (disch := omega) only [go_sem, ↓reduceIte]; refine hK' _ ?_; clear hK' K')
   refine AOps.nil ?_
   simp only [Post.then]
   refine hK_14 _ ?_
   clear hK_14 K_14
   obtain ⟨o_16, hj_17, h⟩ := bind_some h
   refine AWp.seqI (fun i_148 : (List Reach) => ⟨[(0, .d (.int .i64 n1)), (9, .slc 1000 0 i_148.length)], [(1000, ⟨90, 5, dl (lenc Reach.pd i_148)⟩)], [], none⟩) (fun i_148 => o_16 = i_148) ?_ ?_
   ·refine AWp.seq fun K_18 hK_18 => AWp.reg ?_
    iterate 1 (refine AOps.consU fun K' hK' => ?_; simp (disch := omega) only [go_sem, ↓reduceIte]; refine hK' _ ?_; clear hK' K')
    refine AOps.nil ?_
    simp only [Post.then]
    refine hK_18 _ ?_
    clear hK_18 K_18
    refine AWp.block ?_
    obtain ⟨x_23, hl_20, h2_21⟩ := bind_some hj_17
    obtain ⟨n_19, hl_20⟩ := iter_some hl_20
    refine AWp.loopI (fun i_119 : Nat × (Int × (List Reach)) => ⟨[(0, .d (.int .i64 n1)), (1, .d (.imm 4 (lenc Offer.pd l1))), (9, .slc 1000 0 i_119.2.2.length), (10, .d (.int .i64 i_119.2.1))], [(1000, ⟨90, 5, dl (lenc Reach.pd i_119.2.2)⟩)], [], none⟩) (fun i_119 => iterN (m_cocketref01_Prices_l1 n1 l1) i_119.1 i_119.2 = some x_23) (fun i_119 => i_119.1) (n_19, (0, (List.replicate (n1).toNat (⟨false, ⟨⟨false, []⟩, ⟨false, []⟩⟩⟩ : Reach)))) hl_20 (Sub.mk ⟨rfl, rfl, slcl (by simp only [List.length_append, List.length_set, List.length_replicate, List.length_cons, List.length_nil, Nat.zero_add]), rfl, trivial⟩ ⟨rfl, trivial⟩ ⟨trivial, trivial, rfl, trivial, trivial⟩ ⟨row_refs _ _, trivial⟩ ⟨rfl, trivial, rfl⟩) ?_
    clear hl_20
    rintro ⟨n_19, to1, L2⟩ hl_20
    try dsimp only at hl_20
    try dsimp only
    cases n_19 with
    | zero => cases hl_20
    | succ n_19 =>
     rw [iterN_succ] at hl_20
     obtain ⟨ob_24, hb_22, hl_20⟩ := bind_some hl_20
     unfold m_cocketref01_Prices_l1 at hb_22
     try dsimp only at hb_22
     refine AWp.seq fun K_25 hK_25 => ?_
     refine AWp.seq fun K_26 hK_26 => AWp.reg ?_
     iterate 3 (refine AOps.consU fun K' hK' => ?_; simp (disch := omega) only [go_sem, ↓reduceIte]; refine hK' _ ?_; clear hK' K')
     refine AOps.nil ?_
     simp only [Post.then]
     refine hK_26 _ ?_
     clear hK_26 K_26
     refine AWp.cond (b := (decide (to1 < n1))) (by rfl) (fun hb_27 => ?_) (fun hb_27 => ?_)
     ·rw [hb_27, cond_true] at hb_22
      refine AWp.skip ?_
      simp only [Post.then, Post.inBlock, ↓reduceIte, Nat.reduceEqDiff]
      refine hK_25 _ ?_
      clear hK_25 K_25
      obtain ⟨o_28, hj_29, hb_22⟩ := bind_some hb_22
      refine AWp.seqI (fun i_117 : (List Reach) => ⟨[(0, .d (.int .i64 n1)), (1, .d (.imm 4 (lenc Offer.pd l1))), (9, .slc 1000 0 i_117.length), (10, .d (.int .i64 to1))], [(1000, ⟨90, 5, dl (lenc Reach.pd i_117)⟩)], [], none⟩) (fun i_117 => o_28 = i_117) ?_ ?_
      ·refine AWp.block ?_
       refine AWp.seq fun K_30 hK_30 => AWp.reg ?_
       iterate 5 (refine AOps.consU fun K' hK' => ?_; simp (disch := omega) only [go_sem, ↓reduceIte]; refine hK' _ ?_; clear hK' K')
       obtain ⟨r3, hx_31, hj_29⟩ := bind_some hj_29
       refine AOps.consU fun K' hK' => ?_; simp (disch := omega) only [go_sem, ↓reduceIte]; refine OpT.call (by rfl) (by rfl) (by kernel_rfl) (m_cocketref01_reaches_ok n1 l1 to1 (IntKind.i64.wrap (n1 - 1)) _ hx_31) (by exact ⟨rfl, rfl, rfl, rfl, trivial⟩) (by simp only [go_sem, ↓reduceIte]) ?_ (by simp only [go_sem]); simp only [go_sem, ↓reduceIte]; refine hK' _ ?_; clear hK' K'
       iterate 1 (refine AOps.consU fun K' hK' => ?_; simp (disch := omega) only [go_sem, ↓reduceIte]; refine hK' _ ?_; clear hK' K')
       refine AOps.nil ?_
       simp only [Post.then]
       refine hK_30 _ ?_
       clear hK_30 K_30
       refine AWp.seq fun K_32 hK_32 => AWp.reg ?_
       iterate 1 (refine AOps.consU fun K' hK' => ?_; simp (disch := omega) only [go_sem, ↓reduceIte]; refine hK' _ ?_; clear hK' K')
       refine AOps.nil ?_
       simp only [Post.then]
       refine hK_32 _ ?_
       clear hK_32 K_32
       refine AWp.block ?_
       obtain ⟨x_37, hl_34, h2_35⟩ := bind_some hj_29
       obtain ⟨n_33, hl_34⟩ := iter_some hl_34
       refine AWp.loopI (fun i_115 : Nat × (Int × (List Reach)) => ⟨[(0, .d (.int .i64 n1)), (1, .d (.imm 4 (lenc Offer.pd l1))), (9, .slc 1000 0 i_115.2.2.length), (10, .d (.int .i64 to1)), (11, .d (.imm 1 (lenc (slenc 5 Reach.pd) r3))), (12, .d (.int .i64 i_115.2.1))], [(1000, ⟨90, 5, dl (lenc Reach.pd i_115.2.2)⟩)], [], none⟩) (fun i_115 => iterN (m_cocketref01_Prices_l2 n1 r3) i_115.1 i_115.2 = some x_37) (fun i_115 => i_115.1) (n_33, (0, L2)) hl_34 (Sub.mk ⟨rfl, rfl, slcl (by simp only [List.length_append, List.length_set, List.length_replicate, List.length_cons, List.length_nil, Nat.zero_add]), rfl, rfl, rfl, trivial⟩ ⟨rfl, trivial⟩ ⟨trivial, trivial, rfl, trivial, trivial, trivial, trivial⟩ ⟨row_refs _ _, trivial⟩ ⟨rfl, trivial, rfl⟩) ?_
       clear hl_34
       rintro ⟨n_33, k1, L4⟩ hl_34
       try dsimp only at hl_34
       try dsimp only
       cases n_33 with
       | zero => cases hl_34
       | succ n_33 =>
        rw [iterN_succ] at hl_34
        obtain ⟨ob_38, hb_36, hl_34⟩ := bind_some hl_34
        unfold m_cocketref01_Prices_l2 at hb_36
        try dsimp only at hb_36
        refine AWp.seq fun K_39 hK_39 => ?_
        refine AWp.seq fun K_40 hK_40 => AWp.reg ?_
        iterate 3 (refine AOps.consU fun K' hK' => ?_; simp (disch := omega) only [go_sem, ↓reduceIte]; refine hK' _ ?_; clear hK' K')
        refine AOps.nil ?_
        simp only [Post.then]
        refine hK_40 _ ?_
        clear hK_40 K_40
        refine AWp.cond (b := (decide (k1 < n1))) (by rfl) (fun hb_41 => ?_) (fun hb_41 => ?_)
        ·rw [hb_41, cond_true] at hb_36
         refine AWp.skip ?_
         simp only [Post.then, Post.inBlock, ↓reduceIte, Nat.reduceEqDiff]
         refine hK_39 _ ?_
         clear hK_39 K_39
         obtain ⟨o_42, hj_43, hb_36⟩ := bind_some hb_36
         refine AWp.seqI (fun i_113 : (List Reach) => ⟨[(0, .d (.int .i64 n1)), (1, .d (.imm 4 (lenc Offer.pd l1))), (9, .slc 1000 0 i_113.length), (10, .d (.int .i64 to1)), (11, .d (.imm 1 (lenc (slenc 5 Reach.pd) r3))), (12, .d (.int .i64 k1))], [(1000, ⟨90, 5, dl (lenc Reach.pd i_113)⟩)], [], none⟩) (fun i_113 => o_42 = i_113) ?_ ?_
         ·refine AWp.block ?_
          refine AWp.seq fun K_44 hK_44 => AWp.reg ?_
          iterate 1 (refine AOps.consU fun K' hK' => ?_; simp (disch := omega) only [go_sem, ↓reduceIte]; refine hK' _ ?_; clear hK' K')
          refine AOps.nil ?_
          simp only [Post.then]
          refine hK_44 _ ?_
          clear hK_44 K_44
          refine AWp.block ?_
          obtain ⟨x_49, hl_46, h2_47⟩ := bind_some hj_43
          obtain ⟨n_45, hl_46⟩ := iter_some hl_46
          refine AWp.loopI (fun i_111 : Nat × (Int × (List Reach)) => ⟨[(0, .d (.int .i64 n1)), (1, .d (.imm 4 (lenc Offer.pd l1))), (9, .slc 1000 0 i_111.2.2.length), (10, .d (.int .i64 to1)), (11, .d (.imm 1 (lenc (slenc 5 Reach.pd) r3))), (12, .d (.int .i64 k1)), (13, .d (.int .i64 i_111.2.1))], [(1000, ⟨90, 5, dl (lenc Reach.pd i_111.2.2)⟩)], [], none⟩) (fun i_111 => iterN (m_cocketref01_Prices_l3 n1 r3 k1) i_111.1 i_111.2 = some x_49) (fun i_111 => i_111.1) (n_45, (0, L4)) hl_46 (Sub.mk ⟨rfl, rfl, slcl (by simp only [List.length_append, List.length_set, List.length_replicate, List.length_cons, List.length_nil, Nat.zero_add]), rfl, rfl, rfl, rfl, trivial⟩ ⟨rfl, trivial⟩ ⟨trivial, trivial, rfl, trivial, trivial, trivial, trivial, trivial⟩ ⟨row_refs _ _, trivial⟩ ⟨rfl, trivial, rfl⟩) ?_
          clear hl_46
          rintro ⟨n_45, v1, L6⟩ hl_46
          try dsimp only at hl_46
          try dsimp only
          cases n_45 with
          | zero => cases hl_46
          | succ n_45 =>
           rw [iterN_succ] at hl_46
           obtain ⟨ob_50, hb_48, hl_46⟩ := bind_some hl_46
           unfold m_cocketref01_Prices_l3 at hb_48
           try dsimp only at hb_48
           refine AWp.seq fun K_51 hK_51 => ?_
           refine AWp.seq fun K_52 hK_52 => AWp.reg ?_
           iterate 3 (refine AOps.consU fun K' hK' => ?_; simp (disch := omega) only [go_sem, ↓reduceIte]; refine hK' _ ?_; clear hK' K')
           refine AOps.nil ?_
           simp only [Post.then]
           refine hK_52 _ ?_
           clear hK_52 K_52
           refine AWp.cond (b := (decide (v1 < n1))) (by rfl) (fun hb_53 => ?_) (fun hb_53 => ?_)
           ·rw [hb_53, cond_true] at hb_48
            refine AWp.skip ?_
            simp only [Post.then, Post.inBlock, ↓reduceIte, Nat.reduceEqDiff]
            refine hK_51 _ ?_
            clear hK_51 K_51
            obtain ⟨o_54, hj_55, hb_48⟩ := bind_some hb_48
            refine AWp.seqI (fun i_109 : (List Reach) => ⟨[(0, .d (.int .i64 n1)), (1, .d (.imm 4 (lenc Offer.pd l1))), (9, .slc 1000 0 i_109.length), (10, .d (.int .i64 to1)), (11, .d (.imm 1 (lenc (slenc 5 Reach.pd) r3))), (12, .d (.int .i64 k1)), (13, .d (.int .i64 v1))], [(1000, ⟨90, 5, dl (lenc Reach.pd i_109)⟩)], [], none⟩) (fun i_109 => o_54 = i_109) ?_ ?_
            ·refine AWp.block ?_
             refine AWp.seq fun K_56 hK_56 => AWp.draw mo [] (by trivial) ?_
             obtain ⟨e1, hx_57, hj_55⟩ := bind_some hj_55
             obtain ⟨f_58, f_59, f_60, f_61⟩ := idx_some hx_57
             obtain ⟨e2, hx_62, hj_55⟩ := bind_some hj_55
             obtain ⟨f_63, f_64, f_65, f_66⟩ := idx_some hx_62
             iterate 9 (refine DOps.consU fun K' hK' => ?_; simp (disch := omega) only [go_sem, f_60, f_65, ↓reduceIte]; refine hK' _ _ ?_; clear hK' K'; simp only [List.nil_append, List.cons_append])
             rcases Bool.eq_false_or_eq_true e2.Is with hg_67 | hg_67
             ·rw [hg_67]
              rw [hg_67, cond_true] at hj_55
              obtain ⟨e3, hx_68, hj_55⟩ := bind_some hj_55
              obtain ⟨f_69, f_70, f_71, f_72⟩ := idx_some hx_68
              iterate 12 (refine DOps.consU fun K' hK' => ?_; simp (disch := omega) only [go_sem, f_60, f_65, f_71, ↓reduceIte]; refine hK' _ _ ?_; clear hK' K'; simp only [List.nil_append, List.cons_append])
              obtain ⟨r4, hx_73, hj_55⟩ := bind_some hj_55
              refine DOps.consC fun K' hK' => ?_; simp (disch := omega) only [go_sem, f_60, f_65, f_71, ↓reduceIte]; refine OpX.call (by rfl) (by rfl) (by kernel_rfl) (m_cocketref01_better_ok e3 e2.Rate _ hx_73) (by exact ⟨rfl, rfl, trivial⟩) (by simp only [go_sem, ↓reduceIte]) (by simp only [go_sem]) (by simp only [go_sem, or_true, true_or, ↓reduceIte]) ?_; simp only [go_sem, ↓reduceIte]; refine hK' _ _ ?_; clear hK' K'; simp only [List.nil_append, List.cons_append]
              iterate 1 (refine DOps.consU fun K' hK' => ?_; simp (disch := omega) only [go_sem, f_60, f_65, f_71, ↓reduceIte]; refine hK' _ _ ?_; clear hK' K'; simp only [List.nil_append, List.cons_append])
              refine DOps.nil (by kernel_rfl) ?_
              simp only [Post.then]
              refine hK_56 _ ?_
              clear hK_56 K_56
              refine AWp.cond (b := r4) (by rfl) (fun hb_74 => ?_) (fun hb_74 => ?_)
              ·rw [hb_74, cond_true] at hj_55
               refine AWp.reg ?_
               obtain ⟨e4, hx_76, hj_55⟩ := bind_some hj_55
               obtain ⟨f_77, f_78, f_79, f_80⟩ := idx_some hx_76
               obtain ⟨e5, hx_81, hj_55⟩ := bind_some hj_55
               obtain ⟨f_82, f_83, f_84, f_85⟩ := idx_some hx_81
               obtain ⟨e6, hx_86, hj_55⟩ := bind_some hj_55
               obtain ⟨f_87, f_88, f_89, f_90⟩ := idx_some hx_86
               iterate 11 (refine AOps.consU fun K' hK' => ?_; simp (disch := omega) only [go_sem, f_79, f_84, f_89, ↓reduceIte]; refine hK' _ ?_; clear hK' K')
               refine AOps.nil ?_
               simp only [Post.then, Post.inBlock, ↓reduceIte, Nat.reduceEqDiff]
               exact ⟨(L6.set (v1).toNat e5), (Option.some.inj hj_55).symm, (Sub.mk ⟨rfl, rfl, slcl (by simp only [List.length_append, List.length_set, List.length_replicate, List.length_cons, List.length_nil, Nat.zero_add]), rfl, rfl, rfl, rfl, trivial⟩ ⟨rfl, trivial⟩ ⟨trivial, trivial, rfl, trivial, trivial, trivial, trivial, trivial⟩ ⟨row_refs _ _, trivial⟩ ⟨rfl, trivial, rfl⟩)⟩
              ·rw [hb_74, cond_false] at hj_55
               refine AWp.skip ?_
               simp only [Post.then, Post.inBlock, ↓reduceIte, Nat.reduceEqDiff]
               exact ⟨L6, (Option.some.inj hj_55).symm, (Sub.mk ⟨rfl, rfl, slcl (by simp only [List.length_append, List.length_set, List.length_replicate, List.length_cons, List.length_nil, Nat.zero_add]), rfl, rfl, rfl, rfl, trivial⟩ ⟨rfl, trivial⟩ ⟨trivial, trivial, rfl, trivial, trivial, trivial, trivial, trivial⟩ ⟨row_refs _ _, trivial⟩ ⟨rfl, trivial, rfl⟩)⟩
             ·rw [hg_67]
              rw [hg_67, cond_false] at hj_55
              iterate 14 (refine DOps.consU fun K' hK' => ?_; simp (disch := omega) only [go_sem, f_60, f_65, ↓reduceIte]; refine hK' _ _ ?_; clear hK' K'; simp only [List.nil_append, List.cons_append])
              refine DOps.nil (by kernel_rfl) ?_
              simp only [Post.then]
              refine hK_56 _ ?_
              clear hK_56 K_56
              refine AWp.cond (b := false) (by rfl) (fun hb_91 => ?_) (fun hb_91 => ?_)
              ·cases hb_91
              ·refine AWp.skip ?_
               simp only [Post.then, Post.inBlock, ↓reduceIte, Nat.reduceEqDiff]
               exact ⟨L6, (Option.some.inj hj_55).symm, (Sub.mk ⟨rfl, rfl, slcl (by simp only [List.length_append, List.length_set, List.length_replicate, List.length_cons, List.length_nil, Nat.zero_add]), rfl, rfl, rfl, rfl, trivial⟩ ⟨rfl, trivial⟩ ⟨trivial, trivial, rfl, trivial, trivial, trivial, trivial, trivial⟩ ⟨row_refs _ _, trivial⟩ ⟨rfl, trivial, rfl⟩)⟩
            ·rintro L7 hx_110
             rw [hx_110] at hb_48
             try dsimp only at hb_48
             try dsimp only
             refine AWp.reg ?_
             iterate 3 (refine AOps.consU fun K' hK' => ?_; simp (disch := omega) only [go_sem, ↓reduceIte]; refine hK' _ ?_; clear hK' K')
             refine AOps.nil ?_
             simp only [Post.then, Post.inBlock, ↓reduceIte, Nat.reduceEqDiff]
             rw [← Option.some.inj hb_48] at hl_46
             try dsimp only at hl_46
             exact ⟨(n_45, ((IntKind.i64.wrap (v1 + 1)), L7)), hl_46, Nat.lt_succ_self n_45, (Sub.mk ⟨rfl, rfl, slcl (by simp only [List.length_append, List.length_set, List.length_replicate, List.length_cons, List.length_nil, Nat.zero_add]), rfl, rfl, rfl, rfl, trivial⟩ ⟨rfl, trivial⟩ ⟨trivial, trivial, rfl, trivial, trivial, trivial, trivial, trivial⟩ ⟨row_refs _ _, trivial⟩ ⟨rfl, trivial, rfl⟩)⟩
           ·rw [hb_53, cond_false] at hb_48
            refine AWp.exit ?_
            simp only [Post.then, Post.inBlock, ↓reduceIte, Nat.reduceEqDiff]
            rw [← Option.some.inj hb_48] at hl_46
            try dsimp only at hl_46
            rw [← Option.some.inj hl_46] at h2_47
            try dsimp only at h2_47
            exact ⟨L6, (Option.some.inj h2_47).symm, (Sub.mk ⟨rfl, rfl, slcl (by simp only [List.length_append, List.length_set, List.length_replicate, List.length_cons, List.length_nil, Nat.zero_add]), rfl, rfl, rfl, trivial⟩ ⟨rfl, trivial⟩ ⟨trivial, trivial, rfl, trivial, trivial, trivial, trivial⟩ ⟨row_refs _ _, trivial⟩ ⟨rfl, trivial, rfl⟩)⟩
         ·rintro L5 hx_114
          rw [hx_114] at hb_36
          try dsimp only at hb_36
          try dsimp only
          refine AWp.reg ?_
          iterate 3 (refine AOps.consU fun K' hK' => ?_; simp (disch := omega) only [go_sem, ↓reduceIte]; refine hK' _ ?_; clear hK' K')
          refine AOps.nil ?_
          simp only [Post.then, Post.inBlock, ↓reduceIte, Nat.reduceEqDiff]
          rw [← Option.some.inj hb_36] at hl_34
          try dsimp only at hl_34
          exact ⟨(n_33, ((IntKind.i64.wrap (k1 + 1)), L5)), hl_34, Nat.lt_succ_self n_33, (Sub.mk ⟨rfl, rfl, slcl (by simp only [List.length_append, List.length_set, List.length_replicate, List.length_cons, List.length_nil, Nat.zero_add]), rfl, rfl, rfl, trivial⟩ ⟨rfl, trivial⟩ ⟨trivial, trivial, rfl, trivial, trivial, trivial, trivial⟩ ⟨row_refs _ _, trivial⟩ ⟨rfl, trivial, rfl⟩)⟩
        ·rw [hb_41, cond_false] at hb_36
         refine AWp.exit ?_
         simp only [Post.then, Post.inBlock, ↓reduceIte, Nat.reduceEqDiff]
         rw [← Option.some.inj hb_36] at hl_34
         try dsimp only at hl_34
         rw [← Option.some.inj hl_34] at h2_35
         try dsimp only at h2_35
         exact ⟨L4, (Option.some.inj h2_35).symm, (Sub.mk ⟨rfl, rfl, slcl (by simp only [List.length_append, List.length_set, List.length_replicate, List.length_cons, List.length_nil, Nat.zero_add]), rfl, trivial⟩ ⟨rfl, trivial⟩ ⟨trivial, trivial, rfl, trivial, trivial⟩ ⟨row_refs _ _, trivial⟩ ⟨rfl, trivial, rfl⟩)⟩
      ·rintro L3 hx_118
       rw [hx_118] at hb_22
       try dsimp only at hb_22
       try dsimp only
       refine AWp.reg ?_
       iterate 3 (refine AOps.consU fun K' hK' => ?_; simp (disch := omega) only [go_sem, ↓reduceIte]; refine hK' _ ?_; clear hK' K')
       refine AOps.nil ?_
       simp only [Post.then, Post.inBlock, ↓reduceIte, Nat.reduceEqDiff]
       rw [← Option.some.inj hb_22] at hl_20
       try dsimp only at hl_20
       exact ⟨(n_19, ((IntKind.i64.wrap (to1 + 1)), L3)), hl_20, Nat.lt_succ_self n_19, (Sub.mk ⟨rfl, rfl, slcl (by simp only [List.length_append, List.length_set, List.length_replicate, List.length_cons, List.length_nil, Nat.zero_add]), rfl, trivial⟩ ⟨rfl, trivial⟩ ⟨trivial, trivial, rfl, trivial, trivial⟩ ⟨row_refs _ _, trivial⟩ ⟨rfl, trivial, rfl⟩)⟩
     ·rw [hb_27, cond_false] at hb_22
      refine AWp.exit ?_
      simp only [Post.then, Post.inBlock, ↓reduceIte, Nat.reduceEqDiff]
      rw [← Option.some.inj hb_22] at hl_20
      try dsimp only at hl_20
      rw [← Option.some.inj hl_20] at h2_21
      try dsimp only at h2_21
      exact ⟨L2, (Option.some.inj h2_21).symm, (Sub.mk ⟨rfl, slcl (by simp only [List.length_append, List.length_set, List.length_replicate, List.length_cons, List.length_nil, Nat.zero_add]), trivial⟩ ⟨rfl, trivial⟩ ⟨trivial, rfl, trivial⟩ ⟨row_refs _ _, trivial⟩ ⟨rfl, trivial, rfl⟩)⟩
   ·rintro L1 hx_149
    rw [hx_149] at h
    try dsimp only at h
    try dsimp only
    refine AWp.seq fun K_120 hK_120 => AWp.reg ?_
    iterate 1 (refine AOps.consU fun K' hK' => ?_; simp (disch := omega) only [go_sem, ↓reduceIte]; refine hK' _ ?_; clear hK' K')
    refine AOps.nil ?_
    simp only [Post.then]
    refine hK_120 _ ?_
    clear hK_120 K_120
    refine AWp.sub (Sub.void 14 26 2 1001 (by rfl) (by rfl) (by decide) (by decide)) ?_
    simp only [eput, hput, reduceCtorEq, ↓reduceIte, Nat.reduceAdd, Nat.reduceMul, Nat.reduceLT, Nat.reduceLeDiff, Nat.reduceEqDiff, Nat.reduceBEq, Int.reduceToNat]
    obtain ⟨o_121, hj_122, h⟩ := bind_some h
    refine AWp.seqI (fun i_146 : (List Ratio) => ⟨[(14, .slc 1001 0 i_146.length)], [(1001, ⟨26, 2, dl (lenc Ratio.pd i_146)⟩)], [], none⟩) (fun i_146 => o_121 = i_146) ?_ ?_
    ·refine AWp.seq fun K_123 hK_123 => AWp.reg ?_
     iterate 1 (refine AOps.consU fun K' hK' => ?_; simp (disch := omega) only [go_sem, ↓reduceIte]; refine hK' _ ?_; clear hK' K')
     refine AOps.nil ?_
     simp only [Post.then]
     refine hK_123 _ ?_
     clear hK_123 K_123
     refine AWp.block ?_
     obtain ⟨x_128, hl_125, h2_126⟩ := bind_some hj_122
     obtain ⟨n_124, hl_125⟩ := iter_some hl_125
     refine AWp.loopI (fun i_144 : Nat × (Int × (List Ratio)) => ⟨[(0, .d (.int .i64 n1)), (9, .slc 1000 0 L1.length), (14, .slc 1001 0 i_144.2.2.length), (15, .d (.int .i64 i_144.2.1))], [(1000, ⟨90, 5, dl (lenc Reach.pd L1)⟩), (1001, ⟨26, 2, dl (lenc Ratio.pd i_144.2.2)⟩)], [], none⟩) (fun i_144 => iterN (m_cocketref01_Prices_l4 n1 L1) i_144.1 i_144.2 = some x_128) (fun i_144 => i_144.1) (n_124, (0, [])) hl_125 (Sub.mk ⟨rfl, rfl, slcl (by simp only [List.length_append, List.length_set, List.length_replicate, List.length_cons, List.length_nil, Nat.zero_add]), rfl, trivial⟩ ⟨rfl, rfl, trivial⟩ ⟨trivial, rfl, rfl, trivial, trivial⟩ ⟨row_refs _ _, row_refs _ _, trivial⟩ ⟨rfl, trivial, rfl⟩) ?_
     clear hl_125
     rintro ⟨n_124, v2, L9⟩ hl_125
     try dsimp only at hl_125
     try dsimp only
     cases n_124 with
     | zero => cases hl_125
     | succ n_124 =>
      rw [iterN_succ] at hl_125
      obtain ⟨ob_129, hb_127, hl_125⟩ := bind_some hl_125
      unfold m_cocketref01_Prices_l4 at hb_127
      try dsimp only at hb_127
      refine AWp.seq fun K_130 hK_130 => ?_
      refine AWp.seq fun K_131 hK_131 => AWp.reg ?_
      iterate 3 (refine AOps.consU fun K' hK' => ?_; simp (disch := omega) only [go_sem, ↓reduceIte]; refine hK' _ ?_; clear hK' K')
      refine AOps.nil ?_
      simp only [Post.then]
      refine hK_131 _ ?_
      clear hK_131 K_131
      refine AWp.cond (b := (decide (v2 < n1))) (by rfl) (fun hb_132 => ?_) (fun hb_132 => ?_)
      ·rw [hb_132, cond_true] at hb_127
       refine AWp.skip ?_
       simp only [Post.then, Post.inBlock, ↓reduceIte, Nat.reduceEqDiff]
       refine hK_130 _ ?_
       clear hK_130 K_130
       refine AWp.seq fun K_133 hK_133 => ?_
       refine AWp.block ?_
       refine AWp.seq fun K_134 hK_134 => AWp.reg ?_
       obtain ⟨e10, hx_135, hb_127⟩ := bind_some hb_127
       obtain ⟨f_136, f_137, f_138, f_139⟩ := idx_some hx_135
       iterate 5 (refine AOps.consU fun K' hK' => ?_; simp (disch := omega) only [go_sem, f_138, ↓reduceIte]; refine hK' _ ?_; clear hK' K')
       obtain ⟨r5, hx_140, hb_127⟩ := bind_some hb_127
       refine AOps.consU fun K' hK' => ?_; simp (disch := omega) only [go_sem, f_138, ↓reduceIte]; refine OpT.call (by rfl) (by rfl) (by kernel_rfl) (m_cocketref01_ToRatio_ok e10.Rate 1152921504606846976 _ hx_140) (by exact ⟨rfl, rfl, trivial⟩) (by simp only [go_sem, ↓reduceIte]) ?_ (by simp only [go_sem]); simp only [go_sem, ↓reduceIte]; refine hK' _ ?_; clear hK' K'
       iterate 6 (refine AOps.consU fun K' hK' => ?_; simp (disch := omega) only [go_sem, f_138, ↓reduceIte]; refine hK' _ ?_; clear hK' K')
       refine AOps.nil ?_
       simp only [Post.then]
       refine hK_134 _ ?_
       clear hK_134 K_134
       refine AWp.reg ?_
       iterate 2 (refine AOps.consU fun K' hK' => ?_; simp (disch := omega) only [go_sem, ↓reduceIte]; refine hK' _ ?_; clear hK' K')
       refine AOps.consL fun K' hK' => ?_; simp (disch := omega) only [go_sem, ↓reduceIte]; refine hK' _ ?_; clear hK' K'
       obtain ⟨hg_142, hb_127⟩ := guardO_some hb_127
       iterate 2 (refine AOps.consU fun K' hK' => ?_; simp (disch := omega) only [go_sem, ↓reduceIte]; refine hK' _ ?_; clear hK' K')
       refine AOps.nil ?_
       simp only [Post.then, Post.inBlock, ↓reduceIte, Nat.reduceEqDiff]
       refine hK_133 _ ?_
       clear hK_133 K_133
       refine AWp.reg ?_
       iterate 3 (refine AOps.consU fun K' hK' => ?_; simp (disch := omega) only [go_sem, ↓reduceIte]; refine hK' _ ?_; clear hK' K')
       refine AOps.nil ?_
       simp only [Post.then, Post.inBlock, ↓reduceIte, Nat.reduceEqDiff]
       rw [← Option.some.inj hb_127] at hl_125
       try dsimp only at hl_125
       exact ⟨(n_124, ((IntKind.i64.wrap (v2 + 1)), (L9 ++ [r5.1]))), hl_125, Nat.lt_succ_self n_124, (Sub.mk ⟨rfl, rfl, slcl (by simp only [List.length_append, List.length_set, List.length_replicate, List.length_cons, List.length_nil, Nat.zero_add]), rfl, trivial⟩ ⟨rfl, rfl, trivial⟩ ⟨trivial, rfl, rfl, trivial, trivial⟩ ⟨row_refs _ _, row_refs _ _, trivial⟩ ⟨rfl, trivial, rfl⟩)⟩
      ·rw [hb_132, cond_false] at hb_127
       refine AWp.exit ?_
       simp only [Post.then, Post.inBlock, ↓reduceIte, Nat.reduceEqDiff]
       rw [← Option.some.inj hb_127] at hl_125
       try dsimp only at hl_125
       rw [← Option.some.inj hl_125] at h2_126
       try dsimp only at h2_126
       exact ⟨L9, (Option.some.inj h2_126).symm, (Sub.mk ⟨slcl (by simp only [List.length_append, List.length_set, List.length_replicate, List.length_cons, List.length_nil, Nat.zero_add]), trivial⟩ ⟨rfl, trivial⟩ ⟨rfl, trivial⟩ ⟨row_refs _ _, trivial⟩ ⟨rfl, trivial, rfl⟩)⟩
    ·rintro L8 hx_147
     rw [hx_147] at h
     try dsimp only at h
     try dsimp only
     refine AWp.seq fun K_145 hK_145 => AWp.reg ?_
     iterate 3 (refine AOps.consU fun K' hK' => ?_; simp (disch := omega) only [go_sem, ↓reduceIte]; refine hK' _ ?_; clear hK' K')
     refine AOps.nil ?_
     simp only [Post.then]
     refine hK_145 _ ?_
     clear hK_145 K_145
     refine AWp.ret ?_
     simp only [Post.then, Post.inBlock, Go.Pv.Fin, Go.Pv.FinG]
     rw [← Option.some.inj h]
     refine ⟨.tuple [.slc 1001 0 L8.length, .d (.int .i64 0)], ?_, (by first | exact True.intro | rfl), .tuple [.d (.imm 2 (lenc Ratio.pd L8)), .d (.int .i64 0)], ?_, ?_⟩
     ·simp only [go_sem, Tryd.results24, List.length_append, List.length_set, List.length_replicate, ↓reduceIte]
     ·simp only [go_sem, lenc_nil, List.take_length, List.length_append, List.length_set, List.length_replicate, ↓reduceIte]
     ·(first | exact leV_refl _ | (simp only [go_sem, leV, leVL, leD, leDL, lenc_nil, leD_refl, leDL_refl, lstD_le, ↓reduceIte]; done))
end Go.Pv.Tryd

namespace Go.Pv.Tryd
open Go.Proofs Go.Pv
theorem m_cocketlaw01_ratios_ok (a1 : (List Ratio)) (b1 : (List Ratio)) (r : Bool) (h : m_cocketlaw01_ratios a1 b1 = some r) : PureFn Tryd.prog G 25 [.d (.imm 2 (lenc Ratio.pd a1)), .d (.imm 2 (lenc Ratio.pd b1))] (.d (.bool r)) := by
 unfold m_cocketlaw01_ratios at h
 refine PureFn.intro2 Tryd.func25 (by rfl) (by rw [Tryd.ntmps25]; simp) ?_
 rw [Tryd.ntmps25]
 simp only [argEnv, reduceCtorEq, ↓reduceIte, Nat.reduceAdd, Nat.reduceMul, Nat.reduceLT, Nat.reduceLeDiff, Nat.reduceEqDiff, Nat.reduceBEq, Int.reduceToNat]
 refine AWp.seq fun K_1 hK_1 => AWp.reg ?_
 iterate 1 (refine AOps.consU fun K' hK' => ?_; simp (disch := omega) only [go_sem, ↓reduceIte]; refine hK' _ ?_; clear hK' K')
 refine AOps.nil ?_
 simp only [Post.then]
 refine hK_1 _ ?_
 clear hK_1 K_1
 refine AWp.seq fun K_2 hK_2 => ?_
 refine AWp.seq fun K_3 hK_3 => AWp.reg ?_
 iterate 5 (refine AOps.consU fun K' hK' => ?_; simp (disch := omega) only [go_sem, ↓reduceIte]; refine hK' _ ?_; clear hK' K')
 refine AOps.nil ?_
 simp only [Post.then]
 refine hK_3 _ ?_
 clear hK_3 K_3
 refine AWp.cond (b := (decide (¬(a1.length : Int) = (b1.length : Int)))) (by rfl) (fun hb_4 => ?_) (fun hb_4 => ?_)
 ·rw [hb_4, cond_true] at h
  refine AWp.seq fun K_5 hK_5 => AWp.reg ?_
  iterate 1 (refine AOps.consU fun K' hK' => ?_; simp (disch := omega) only [go_sem, ↓reduceIte]; refine hK' _ ?_; clear hK' K')
  refine AOps.nil ?_
  simp only [Post.then]
  refine hK_5 _ ?_
  clear hK_5 K_5
  refine AWp.ret ?_
  simp only [Post.then, Post.inBlock, Go.Pv.Fin, Go.Pv.FinG]
  rw [← Option.some.inj h]
  refine ⟨.d (.bool false), ?_, (by first | exact True.intro | rfl), .d (.bool false), ?_, ?_⟩
  ·simp only [go_sem, Tryd.results25, List.length_append, List.length_set, List.length_replicate, ↓reduceIte]
  ·simp only [go_sem, lenc_nil, List.take_length, List.length_append, List.length_set, List.length_replicate, ↓reduceIte]
  ·(first | exact leV_refl _ | (simp only [go_sem, leV, leVL, leD, leDL, lenc_nil, leD_refl, leDL_refl, lstD_le, ↓reduceIte]; done))
 ·rw [hb_4, cond_false] at h
  refine AWp.skip ?_
  simp only [Post.then, Post.inBlock, ↓reduceIte, Nat.reduceEqDiff]
  refine hK_2 _ ?_
  clear hK_2 K_2
  obtain ⟨o_6, hj_7, h⟩ := bind_some h
  refine AWp.seqI (fun i_35 : Unit => ⟨[], [], [], none⟩) (fun i_35 => o_6 = (.inl i_35)) ?_ ?_
  ·refine AWp.seq fun K_8 hK_8 => AWp.reg ?_
   iterate 1 (refine AOps.consU fun K' hK' => ?_; simp (disch := omega) only [go_sem, ↓reduceIte]; refine hK' _ ?_; clear hK' K')
   refine AOps.nil ?_
   simp only [Post.then]
   refine hK_8 _ ?_
   clear hK_8 K_8
   refine AWp.block ?_
   obtain ⟨x_13, hl_10, h2_11⟩ := bind_some hj_7
   obtain ⟨n_9, hl_10⟩ := iter_some hl_10
   refine AWp.loopI (fun i_33 : Nat × Int => ⟨[(0, .d (.imm 2 (lenc Ratio.pd a1))), (1, .d (.imm 2 (lenc Ratio.pd b1))), (5, .d (.int .i64 i_33.2))], [], [], none⟩) (fun i_33 => iterN (m_cocketlaw01_ratios_l1 a1 b1) i_33.1 i_33.2 = some x_13) (fun i_33 => i_33.1) (n_9, 0) hl_10 (Sub.mk ⟨rfl, rfl, rfl, trivial⟩ trivial ⟨trivial, trivial, trivial, trivial⟩ trivial ⟨rfl, trivial, rfl⟩) ?_
   clear hl_10
   rintro ⟨n_9, i1⟩ hl_10
   try dsimp only at hl_10
   try dsimp only
   cases n_9 with
   | zero => cases hl_10
   | succ n_9 =>
    rw [iterN_succ] at hl_10
    obtain ⟨ob_14, hb_12, hl_10⟩ := bind_some hl_10
    unfold m_cocketlaw01_ratios_l1 at hb_12
    try dsimp only at hb_12
    refine AWp.seq fun K_15 hK_15 => ?_
    refine AWp.seq fun K_16 hK_16 => AWp.reg ?_
    iterate 4 (refine AOps.consU fun K' hK' => ?_; simp (disch := omega) only [go_sem, ↓reduceIte]; refine hK' _ ?_; clear hK' K')
    refine AOps.nil ?_
    simp only [Post.then]
    refine hK_16 _ ?_
    clear hK_16 K_16
    refine AWp.cond (b := (decide (i1 < (a1.length : Int)))) (by rfl) (fun hb_17 => ?_) (fun hb_17 => ?_)
    ·rw [hb_17, cond_true] at hb_12
     refine AWp.skip ?_
     simp only [Post.then, Post.inBlock, ↓reduceIte, Nat.reduceEqDiff]
     refine hK_15 _ ?_
     clear hK_15 K_15
     refine AWp.seq fun K_18 hK_18 => ?_
     refine AWp.block ?_
     refine AWp.seq fun K_19 hK_19 => AWp.draw mo [] (by trivial) ?_
     obtain ⟨e1, hx_20, hb_12⟩ := bind_some hb_12
     obtain ⟨f_21, f_22, f_23, f_24⟩ := idx_some hx_20
     obtain ⟨e2, hx_25, hb_12⟩ := bind_some hb_12
     obtain ⟨f_26, f_27, f_28, f_29⟩ := idx_some hx_25
     iterate 8 (refine DOps.consU fun K' hK' => ?_; simp (disch := omega) only [go_sem, f_23, f_28, ↓reduceIte]; refine hK' _ _ ?_; clear hK' K'; simp only [List.nil_append, List.cons_append])
     refine DOps.consX fun K' hK' => ?_; simp (disch := omega) only [go_sem, f_23, f_28, fsl26, ↓reduceIte]; refine hK' _ _ ?_; clear hK' K'; simp only [List.nil_append, List.cons_append]
     refine DOps.nil (by kernel_rfl) ?_
     simp only [Post.then]
     refine hK_19 _ ?_
     clear hK_19 K_19
     refine AWp.cond (b := (!((e1.Num == e2.Num) && (e1.Den == e2.Den)))) (by rfl) (fun hb_30 => ?_) (fun hb_30 => ?_)
     ·rw [hb_30, cond_true] at hb_12
      refine AWp.seq fun K_31 hK_31 => AWp.reg ?_
      iterate 1 (refine AOps.consU fun K' hK' => ?_; simp (disch := omega) only [go_sem, ↓reduceIte]; refine hK' _ ?_; clear hK' K')
      refine AOps.nil ?_
      simp only [Post.then]
      refine hK_31 _ ?_
      clear hK_31 K_31
      refine AWp.ret ?_
      simp only [Post.then, Post.inBlock, Go.Pv.Fin, Go.Pv.FinG]
      rw [← Option.some.inj hb_12] at hl_10
      try dsimp only at hl_10
      rw [← Option.some.inj hl_10] at h2_11
      try dsimp only at h2_11
      rw [← Option.some.inj h2_11] at h
      try dsimp only at h
      rw [← Option.some.inj h]
      refine ⟨.d (.bool false), ?_, (by first | exact True.intro | rfl), .d (.bool false), ?_, ?_⟩
      ·simp only [go_sem, Tryd.results25, List.length_append, List.length_set, List.length_replicate, ↓reduceIte]
      ·simp only [go_sem, lenc_nil, List.take_length, List.length_append, List.length_set, List.length_replicate, ↓reduceIte]
      ·(first | exact leV_refl _ | (simp only [go_sem, leV, leVL, leD, leDL, lenc_nil, leD_refl, leDL_refl, lstD_le, ↓reduceIte]; done))
     ·rw [hb_30, cond_false] at hb_12
      refine AWp.skip ?_
      simp only [Post.then, Post.inBlock, ↓reduceIte, Nat.reduceEqDiff]
      refine hK_18 _ ?_
      clear hK_18 K_18
      refine AWp.reg ?_
      iterate 3 (refine AOps.consU fun K' hK' => ?_; simp (disch := omega) only [go_sem, ↓reduceIte]; refine hK' _ ?_; clear hK' K')
      refine AOps.nil ?_
      simp only [Post.then, Post.inBlock, ↓reduceIte, Nat.reduceEqDiff]
      rw [← Option.some.inj hb_12] at hl_10
      try dsimp only at hl_10
      exact ⟨(n_9, (IntKind.i64.wrap (i1 + 1))), hl_10, Nat.lt_succ_self n_9, (Sub.mk ⟨rfl, rfl, rfl, trivial⟩ trivial ⟨trivial, trivial, trivial, trivial⟩ trivial ⟨rfl, trivial, rfl⟩)⟩
    ·rw [hb_17, cond_false] at hb_12
     refine AWp.exit ?_
     simp only [Post.then, Post.inBlock, ↓reduceIte, Nat.reduceEqDiff]
     rw [← Option.some.inj hb_12] at hl_10
     try dsimp only at hl_10
     rw [← Option.some.inj hl_10] at h2_11
     try dsimp only at h2_11
     exact ⟨(), (Option.some.inj h2_11).symm, (Sub.mk trivial trivial trivial trivial ⟨rfl, trivial, rfl⟩)⟩
  ·rintro _ hx_36
   rw [hx_36] at h
   try dsimp only at h
   try dsimp only
   refine AWp.seq fun K_34 hK_34 => AWp.reg ?_
   iterate 1 (refine AOps.consU fun K' hK' => ?_; simp (disch := omega) only [go_sem, ↓reduceIte]; refine hK' _ ?_; clear hK' K')
   refine AOps.nil ?_
   simp only [Post.then]
   refine hK_34 _ ?_
   clear hK_34 K_34
   refine AWp.ret ?_
   simp only [Post.then, Post.inBlock, Go.Pv.Fin, Go.Pv.FinG]
   rw [← Option.some.inj h]
   refine ⟨.d (.bool true), ?_, (by first | exact True.intro | rfl), .d (.bool true), ?_, ?_⟩
   ·simp only [go_sem, Tryd.results25, List.length_append, List.length_set, List.length_replicate, ↓reduceIte]
   ·simp only [go_sem, lenc_nil, List.take_length, List.length_append, List.length_set, List.length_replicate, ↓reduceIte]
   ·(first | exact leV_refl _ | (simp only [go_sem, leV, leVL, leD, leDL, lenc_nil, leD_refl, leDL_refl, lstD_le, ↓reduceIte]; done))
end Go.Pv.Tryd

namespace Go.Pv.Tryd
open Go.Proofs Go.Pv
theorem m_cocketlaw01_RatePrices_ok (n1 : Int) (l1 : (List Offer)) (r : Bool) (h : m_cocketlaw01_RatePrices n1 l1 = some r) : PureFn Tryd.prog G 4 [.d (.int .i64 n1), .d (.imm 4 (lenc Offer.pd l1))] (.d (.bool r)) := by
 unfold m_cocketlaw01_RatePrices at h
 refine PureFn.intro2 Tryd.func4 (by rfl) (by rw [Tryd.ntmps4]; simp) ?_
 rw [Tryd.ntmps4]
 simp only [argEnv, reduceCtorEq, ↓reduceIte, Nat.reduceAdd, Nat.reduceMul, Nat.reduceLT, Nat.reduceLeDiff, Nat.reduceEqDiff, Nat.reduceBEq, Int.reduceToNat]
 refine AWp.seq fun K_1 hK_1 => AWp.reg ?_
 iterate 1 (refine AOps.consU fun K' hK' => ?_; simp (disch := omega) only [go_sem, ↓reduceIte]; refine hK' _ ?_; clear hK' K')
 refine AOps.nil ?_
 simp only [Post.then]
 refine hK_1 _ ?_
 clear hK_1 K_1
 refine AWp.seq fun K_2 hK_2 => ?_
 refine AWp.seq fun K_3 hK_3 => AWp.reg ?_
 iterate 1 (refine AOps.consU fun K' hK' => ?_; simp (disch := omega) only [go_sem, ↓reduceIte]; refine hK' _ ?_; clear hK' K')
 obtain ⟨r1, hx_4, h⟩ := bind_some h
 refine AOps.consU fun K' hK' => ?_; simp (disch := omega) only [go_sem, ↓reduceIte]; refine OpT.call (by rfl) (by rfl) (by kernel_rfl) (m_cocketlaw01_few_ok l1 _ hx_4) (by exact ⟨rfl, trivial⟩) (by simp only [go_sem, ↓reduceIte]) ?_ (by simp only [go_sem]); simp only [go_sem, ↓reduceIte]; refine hK' _ ?_; clear hK' K'
 iterate 1 (refine AOps.consU fun K' hK' => ?_; simp (disch := omega) only [go_sem, ↓reduceIte]; refine hK' _ ?_; clear hK' K')
 refine AOps.nil ?_
 simp only [Post.then]
 refine hK_3 _ ?_
 clear hK_3 K_3
 refine AWp.cond (b := (!r1)) (by rfl) (fun hb_5 => ?_) (fun hb_5 => ?_)
 ·rw [hb_5, cond_true] at h
  refine AWp.seq fun K_6 hK_6 => AWp.reg ?_
  obtain ⟨r2, hx_7, h⟩ := bind_some h
  refine AOps.consU fun K' hK' => ?_; simp (disch := omega) only [go_sem, ↓reduceIte]; refine OpT.call (by rfl) (by rfl) (by kernel_rfl) (m_cocketlaw01_alive_ok _ hx_7) (by exact trivial) (by simp only [go_sem, ↓reduceIte]) ?_ (by simp only [go_sem]); simp only [go_sem, ↓reduceIte]; refine hK' _ ?_; clear hK' K'
  iterate 1 (refine AOps.consU fun K' hK' => ?_; simp (disch := omega) only [go_sem, ↓reduceIte]; refine hK' _ ?_; clear hK' K')
  refine AOps.nil ?_
  simp only [Post.then]
  refine hK_6 _ ?_
  clear hK_6 K_6
  refine AWp.ret ?_
  simp only [Post.then, Post.inBlock, Go.Pv.Fin, Go.Pv.FinG]
  rw [← Option.some.inj h]
  refine ⟨.d (.bool r2), ?_, (by first | exact True.intro | rfl), .d (.bool r2), ?_, ?_⟩
  ·simp only [go_sem, Tryd.results4, List.length_append, List.length_set, List.length_replicate, ↓reduceIte]
  ·simp only [go_sem, lenc_nil, List.take_length, List.length_append, List.length_set, List.length_replicate, ↓reduceIte]
  ·(first | exact leV_refl _ | (simp only [go_sem, leV, leVL, leD, leDL, lenc_nil, leD_refl, leDL_refl, lstD_le, ↓reduceIte]; done))
 ·rw [hb_5, cond_false] at h
  refine AWp.skip ?_
  simp only [Post.then, Post.inBlock, ↓reduceIte, Nat.reduceEqDiff]
  refine hK_2 _ ?_
  clear hK_2 K_2
  refine AWp.seq fun K_8 hK_8 => AWp.reg ?_
  iterate 2 (refine AOps.consU fun K' hK' => ?_; simp (disch := omega) only [go_sem, ↓reduceIte]; refine hK' _ ?_; clear hK' K')
  obtain ⟨r3, hx_9, h⟩ := bind_some h
  refine AOps.consU fun K' hK' => ?_; simp (disch := omega) only [go_sem, ↓reduceIte]; refine OpT.call (by rfl) (by rfl) (by kernel_rfl) (m_rate_Prices_ok n1 l1 _ hx_9) (by exact ⟨rfl, rfl, trivial⟩) (by simp only [go_sem, ↓reduceIte]) ?_ (by simp only [go_sem]); simp only [go_sem, ↓reduceIte]; refine hK' _ ?_; clear hK' K'
  iterate 5 (refine AOps.consU fun K' hK' => ?_; simp (disch := omega) only [go_sem, ↓reduceIte]; refine hK' _ ?_; clear hK' K')
  refine AOps.nil ?_
  simp only [Post.then]
  refine hK_8 _ ?_
  clear hK_8 K_8
  refine AWp.seq fun K_10 hK_10 => AWp.reg ?_
  iterate 2 (refine AOps.consU fun K' hK' => ?_; simp (disch := omega) only [go_sem, ↓reduceIte]; refine hK' _ ?_; clear hK' K')
  obtain ⟨r4, hx_11, h⟩ := bind_some h
  refine AOps.consU fun K' hK' => ?_; simp (disch := omega) only [go_sem, ↓reduceIte]; refine OpT.call (by rfl) (by rfl) (by kernel_rfl) (m_cocketref01_Prices_ok n1 l1 _ hx_11) (by exact ⟨rfl, rfl, trivial⟩) (by simp only [go_sem, ↓reduceIte]) ?_ (by simp only [go_sem]); simp only [go_sem, ↓reduceIte]; refine hK' _ ?_; clear hK' K'
  iterate 5 (refine AOps.consU fun K' hK' => ?_; simp (disch := omega) only [go_sem, ↓reduceIte]; refine hK' _ ?_; clear hK' K')
  refine AOps.nil ?_
  simp only [Post.then]
  refine hK_10 _ ?_
  clear hK_10 K_10
  refine AWp.seq fun K_12 hK_12 => AWp.reg ?_
  iterate 2 (refine AOps.consU fun K' hK' => ?_; simp (disch := omega) only [go_sem, ↓reduceIte]; refine hK' _ ?_; clear hK' K')
  obtain ⟨r5, hx_13, h⟩ := bind_some h
  refine AOps.consU fun K' hK' => ?_; simp (disch := omega) only [go_sem, ↓reduceIte]; refine OpT.call (by rfl) (by rfl) (by kernel_rfl) (m_cocketlaw01_ratios_ok r3.1 r4.1 _ hx_13) (by exact ⟨rfl, rfl, trivial⟩) (by simp only [go_sem, ↓reduceIte]) ?_ (by simp only [go_sem]); simp only [go_sem, ↓reduceIte]; refine hK' _ ?_; clear hK' K'
  iterate 1 (refine AOps.consU fun K' hK' => ?_; simp (disch := omega) only [go_sem, ↓reduceIte]; refine hK' _ ?_; clear hK' K')
  refine AOps.cut 4 (⟨[(4, .d (.bool false)), (32, .d (.bool (r5 && (decide (r3.2 = r4.2)))))], [], [], none⟩) ?_ ?_
  ·simp only [List.take_succ_cons, List.take_zero]
   rcases Bool.eq_false_or_eq_true r5 with hg_15 | hg_15
   ·rw [hg_15]
    iterate 4 (refine AOps.consU fun K' hK' => ?_; simp (disch := omega) only [go_sem, ↓reduceIte]; refine hK' _ ?_; clear hK' K')
    refine AOps.nil ?_
    exact (Sub.mk ⟨rfl, rfl, trivial⟩ trivial ⟨trivial, trivial, trivial⟩ trivial ⟨rfl, trivial, rfl⟩)
   ·rw [hg_15]
    iterate 4 (refine AOps.consU fun K' hK' => ?_; simp (disch := omega) only [go_sem, ↓reduceIte]; refine hK' _ ?_; clear hK' K')
    refine AOps.nil ?_
    exact (Sub.mk ⟨rfl, rfl, trivial⟩ trivial ⟨trivial, trivial, trivial⟩ trivial ⟨rfl, trivial, rfl⟩)
  simp only [List.drop_succ_cons, List.drop_zero]
  iterate 1 (refine AOps.consU fun K' hK' => ?_; simp (disch := omega) only [go_sem, ↓reduceIte]; refine hK' _ ?_; clear hK' K')
  obtain ⟨b1, hc_16, h⟩ := bind_some h
  refine AOps.cut 2 (⟨[(4, .d (.bool false)), (35, .d (.bool b1))], [], [], none⟩) ?_ ?_
  ·simp only [List.take_succ_cons, List.take_zero]
   rcases Bool.eq_false_or_eq_true (r5 && (decide (r3.2 = r4.2))) with hg_18 | hg_18
   ·rw [hg_18]
    rw [hg_18, cond_true] at hc_16
    obtain ⟨r6, hx_17, hc_16⟩ := bind_some hc_16
    refine AOps.consU fun K' hK' => ?_; simp (disch := omega) only [go_sem, ↓reduceIte]; refine OpT.call (by rfl) (by rfl) (by kernel_rfl) (m_cocketlaw01_alive_ok _ hx_17) (by exact trivial) (by simp only [go_sem, ↓reduceIte]) ?_ (by simp only [go_sem]); simp only [go_sem, ↓reduceIte]; refine hK' _ ?_; clear hK' K'
    iterate 1 (refine AOps.consU fun K' hK' => ?_; simp (disch := omega) only [go_sem, ↓reduceIte]; refine hK' _ ?_; clear hK' K')
    refine AOps.nil ?_
    have hc_16 := Option.some.inj hc_16
    subst hc_16
    exact (Sub.mk ⟨rfl, rfl, trivial⟩ trivial ⟨trivial, trivial, trivial⟩ trivial ⟨rfl, trivial, rfl⟩)
   ·rw [hg_18]
    rw [hg_18, cond_false] at hc_16
    iterate 2 (refine AOps.consU fun K' hK' => ?_; simp (disch := omega) only [go_sem, ↓reduceIte]; refine hK' _ ?_; clear hK' K')
    refine AOps.nil ?_
    have hc_16 := Option.some.inj hc_16
    subst hc_16
    exact (Sub.mk ⟨rfl, rfl, trivial⟩ trivial ⟨trivial, trivial, trivial⟩ trivial ⟨rfl, trivial, rfl⟩)
  simp only [List.drop_succ_cons, List.drop_zero]
  iterate 1 (refine AOps.consU fun K' hK' => ?_; simp (disch := omega) only [go_sem, ↓reduceIte]; refine hK' _ ?_; clear hK' K')
  refine AOps.nil ?_
  simp only [Post.then]
  refine hK_12 _ ?_
  clear hK_12 K_12
  refine AWp.ret ?_
  simp only [Post.then, Post.inBlock, Go.Pv.Fin, Go.Pv.FinG]
  rw [← Option.some.inj h]
  refine ⟨.d (.bool b1), ?_, (by first | exact True.intro | rfl), .d (.bool b1), ?_, ?_⟩
  ·simp only [go_sem, Tryd.results4, List.length_append, List.length_set, List.length_replicate, ↓reduceIte]
  ·simp only [go_sem, lenc_nil, List.take_length, List.length_append, List.length_set, List.length_replicate, ↓reduceIte]
  ·(first | exact leV_refl _ | (simp only [go_sem, leV, leVL, leD, leDL, lenc_nil, leD_refl, leDL_refl, lstD_le, ↓reduceIte]; done))
end Go.Pv.Tryd

namespace Go.Pv.Tryd
open Go Go.Proofs Go.Pv Go.ChangeShapes Go.WideShapes Go.ChangeAt Go.RowKit Go.Proofs.YtmnemlihimnofaaDoor
set_option maxRecDepth 100000 in
theorem prices_lifted (os : Os) (started : os.Started) (H : Type) (enc : TypeId × Value → H) :
    ReturnsInHanded {} Tryd.checked os 4 .any (fun w args => (Rows.ratePricesSpec.pre enc Tryd.prog Tryd.f4 [] false w args ∧ laidMetH Tryd.prog laid1 w) ∧ sizedMet enc Tryd.prog Tryd.f4 (OpenSpec.ofChange Rows.ratePricesSpec) false w args)
      (Rows.ratePricesSpec.post enc Tryd.prog Tryd.f4 false true false false) := by
  refine returnsInHanded_of_change_and (C := Tryd.checked) (X := fun w _ => laidMetH Tryd.prog laid1 w) (fun _ _ _ hh h => h.of_heap hh) own started (by kernel_rfl) Tryd.func4
    (ChangeSpec.witness_shaped (enc := enc) (C := Tryd.checked) (os := os) (X := fun w _ => laidMetH Tryd.prog laid1 w) false (World.doorLaid Tryd.prog 400 os) #[.int .i64 0, .slice none 0 0] 8 rfl (World.shaped_of_RefB (by kernel_rfl) (by kernel_rfl)) (by kernel_rfl) (by kernel_rfl) (by kernel_rfl) (door_met os _)) ?_
  intro W base args ds gs before hval0 hW _ _ hL _
  have hval : ∀ (j : Nat) t v, Tryd.f4.params[j]? = some t → args[j]? = some v → Value.okWide Tryd.prog W .any base t v := hval0
  have hW' := hW
  obtain ⟨p, q, hA0, hV, rfl, hfz, hnd⟩ := hW
  have hA : DataW.TrodAll enc Tryd.prog W 0 (fun _ => true) true Tryd.f4.params.toList args.toList ds p := hA0
  obtain ⟨rfl, rfl⟩ := trodVars_none hV
  rw [Tryd.params4] at hA hval
  obtain ⟨v0, vs0, d0, ds0, p0, q0, ha, rfl, rfl, t0, hA⟩ := trodAll_cons hA
  obtain ⟨v1, vs1, d1, ds1, p1, q1, rfl, rfl, rfl, t1, hA⟩ := trodAll_cons hA
  obtain ⟨rfl, rfl, rfl⟩ := trodAll_nil hA
  have hargs : args = #[v0, v1] := Array.toList_inj.1 ha
  subst hargs
  obtain ⟨x0, r0⟩ := rep_arg_int Tryd.underlying3 (hval 0 3 v0 rfl rfl)
  obtain ⟨x1, r1⟩ := rep_arg_slice Tryd.underlying22 opens_Offer (by decide) (hval 1 22 v1 rfl rfl) t1
  have hw := calls_of_pure (args := [.int .i64 x0, .imm 4 (lenc Offer.pd x1)]) (vs := [v0, v1]) (m_cocketlaw01_RatePrices_ok x0 x1 true (RatePrices_law x0 x1)) rfl (fun i hi => by
    match i, hi with
    | 0, _ => exact r0
    | 1, _ => exact r1) (glob_of_laid hL)
  refine hw.mono fun e W' ⟨he, hs⟩ => ?_
  subst he
  exact ⟨_, rfl, law_post rfl hW' hs rfl (t := 4) (by rfl) Tryd.underlying4 laidOut (by kernel_rfl)⟩
theorem prices_said : Rows.RatePricesSaid :=
  OpenClaim.holds_of_wide 4 Tryd.f4 rfl rfl rfl rfl rfl rfl rfl ⟨rfl, rfl, rfl, rfl, rfl⟩ rfl rfl rfl rfl rfl (by kernel_rfl) Tryd.func4 (by kernel_rfl)
    (of_decide_eq_true (by kernel_rfl)) (by unfold Func.isWrapper; first | (rw [if_pos (by decide +kernel)]; kernel_rfl) | (rw [if_neg (by decide +kernel)]; exact ⟨rfl, rfl⟩))
    (fun os started H enc _ => prices_lifted os started H enc)
theorem prices_card : Rows.RatePricesCardSaid :=
  Claim7.holds_tied_plain_at .later [] [.data] true Rows.ratePricesCard.stood.harness false
    prices_said (fun _ h => by cases h) (by kernel_rfl) (fun _ h => by cases h) ratePrices_row_tie rfl ⟨rfl, rfl⟩ (by kernel_rfl) rfl
    (fun f fn hf hfn => by
      obtain rfl : f = 4 := Option.some.inj ((show Tryd.prog.funcNamed Rows.ratePricesRow.func = some 4 by kernel_rfl).symm.trans hf) |>.symm
      obtain rfl : fn = Tryd.f4 := (Option.some.inj (Tryd.func4.symm.trans hfn)).symm
      exact ⟨by kernel_rfl, fun j t ht => by
        rw [Tryd.params4] at ht
        have hm : t ∈ [3, 22] := by simpa using Array.mem_of_getElem? ht
        have hall : ([3, 22].all fun u => !Tryd.prog.wantsStandIn u) = true := by kernel_rfl
        exact (show Tryd.prog.wantsStandIn t = false by simpa using List.all_eq_true.1 hall t hm)⟩)
    (by kernel_rfl)
end Go.Pv.Tryd

namespace Go.Proofs.YtmnemlihimnofaaDoor

theorem prices_card : Rows.RatePricesCardSaid := Go.Pv.Tryd.prices_card

#print axioms prices_card

end Go.Proofs.YtmnemlihimnofaaDoor
