/- RateChanges: for every input, of whatever size and sharing, the law returns true and its arguments read as before; conditions: the variable rate.one starts as the text lays it (tied by the card). Part 6 of 6: by one AI agent and its programs; no person has read it. -/
import Derived.Test.YtmnemlihimnofaaDoorRateChangesA
import Derived.Test.YtmnemlihimnofaaDoorRateChangesB
import Derived.Test.YtmnemlihimnofaaDoorRateChangesC
import Derived.Test.YtmnemlihimnofaaDoorRateChangesD
import Derived.Test.YtmnemlihimnofaaDoorRateChangesE
import Derived.Test.YtmnemlihimnofaaDoorCards
import Derived.Test.YtmnemlihimnofaaDoorTie
import Derived.SevenTiedAt
set_option linter.unusedSimpArgs false
set_option linter.unusedVariables false
set_option linter.all false

namespace Go.Pv.Tryd
open Go.Proofs Go.Pv

theorem m_cocketref01_Change_ok (n1 : Int) (l1 : (List Offer)) (w1 : (List Int)) (amount1 : Int) (r : (Int × Int)) (h : m_cocketref01_Change n1 l1 w1 amount1 = some r) : PureFn Tryd.prog G 36 [.d (.int .i64 n1), .d (.imm 4 (lenc Offer.pd l1)), .d (.imm 1 (lenc (PD.int .i64) w1)), .d (.int .i64 amount1)] (.tuple [.d (.int .i64 r.1), .d (.int .i64 r.2)]) := by
  unfold m_cocketref01_Change at h
  refine PureFn.intro2 Tryd.func36 (by rfl) (by rw [Tryd.ntmps36]; simp) ?_
  rw [Tryd.ntmps36]
  simp only [argEnv, reduceCtorEq, ↓reduceIte, Nat.reduceAdd, Nat.reduceMul, Nat.reduceLT, Nat.reduceLeDiff, Nat.reduceEqDiff, Nat.reduceBEq, Int.reduceToNat]
  refine AWp.seq fun K_1 hK_1 => AWp.reg ?_
  iterate 2 (refine AOps.consU fun K' hK' => ?_; simp (disch := omega) only [go_sem, reduceCtorEq, ↓reduceIte, Nat.reduceAdd, Nat.reduceMul, Nat.reduceLT, Nat.reduceLeDiff, Nat.reduceEqDiff, Nat.reduceBEq, Int.reduceToNat]; refine hK' _ ?_; clear hK' K')
  refine AOps.nil ?_
  simp only [Post.then]
  refine hK_1 _ ?_
  clear hK_1 K_1
  refine AWp.seq fun K_2 hK_2 => AWp.reg ?_
  iterate 2 (refine AOps.consU fun K' hK' => ?_; simp (disch := omega) only [go_sem, reduceCtorEq, ↓reduceIte, Nat.reduceAdd, Nat.reduceMul, Nat.reduceLT, Nat.reduceLeDiff, Nat.reduceEqDiff, Nat.reduceBEq, Int.reduceToNat]; refine hK' _ ?_; clear hK' K')
  obtain ⟨r1, hx_3, h⟩ := bind_some h
  refine AOps.consU fun K' hK' => ?_; simp (disch := omega) only [go_sem, reduceCtorEq, ↓reduceIte, Nat.reduceAdd, Nat.reduceMul, Nat.reduceLT, Nat.reduceLeDiff, Nat.reduceEqDiff, Nat.reduceBEq, Int.reduceToNat]; refine OpT.call (by rfl) (by rfl) (by kernel_rfl) (m_cocketref01_Good_ok n1 l1 _ hx_3) (by exact ⟨rfl, rfl, trivial⟩) (by simp only [go_sem, reduceCtorEq, ↓reduceIte, Nat.reduceAdd, Nat.reduceMul, Nat.reduceLT, Nat.reduceLeDiff, Nat.reduceEqDiff, Nat.reduceBEq, Int.reduceToNat]) ?_ (by simp only [go_sem]); simp only [go_sem, reduceCtorEq, ↓reduceIte, Nat.reduceAdd, Nat.reduceMul, Nat.reduceLT, Nat.reduceLeDiff, Nat.reduceEqDiff, Nat.reduceBEq, Int.reduceToNat]; refine hK' _ ?_; clear hK' K'
  iterate 1 (refine AOps.consU fun K' hK' => ?_; simp (disch := omega) only [go_sem, reduceCtorEq, ↓reduceIte, Nat.reduceAdd, Nat.reduceMul, Nat.reduceLT, Nat.reduceLeDiff, Nat.reduceEqDiff, Nat.reduceBEq, Int.reduceToNat]; refine hK' _ ?_; clear hK' K')
  refine AOps.nil ?_
  simp only [Post.then]
  refine hK_2 _ ?_
  clear hK_2 K_2
  refine AWp.seq fun K_4 hK_4 => ?_
  refine AWp.seq fun K_5 hK_5 => AWp.reg ?_
  iterate 2 (refine AOps.consU fun K' hK' => ?_; simp (disch := omega) only [go_sem, reduceCtorEq, ↓reduceIte, Nat.reduceAdd, Nat.reduceMul, Nat.reduceLT, Nat.reduceLeDiff, Nat.reduceEqDiff, Nat.reduceBEq, Int.reduceToNat]; refine hK' _ ?_; clear hK' K')
  refine AOps.nil ?_
  simp only [Post.then]
  refine hK_5 _ ?_
  clear hK_5 K_5
  refine AWp.cond (b := (decide (¬r1 = 0))) (by rfl) (fun hb_6 => ?_) (fun hb_6 => ?_)
  · rw [hb_6, cond_true] at h
    refine AWp.seq fun K_7 hK_7 => AWp.reg ?_
    iterate 3 (refine AOps.consU fun K' hK' => ?_; simp (disch := omega) only [go_sem, reduceCtorEq, ↓reduceIte, Nat.reduceAdd, Nat.reduceMul, Nat.reduceLT, Nat.reduceLeDiff, Nat.reduceEqDiff, Nat.reduceBEq, Int.reduceToNat]; refine hK' _ ?_; clear hK' K')
    refine AOps.nil ?_
    simp only [Post.then]
    refine hK_7 _ ?_
    clear hK_7 K_7
    refine AWp.ret ?_
    simp only [Post.then, Post.inBlock, Go.Pv.Fin, Go.Pv.FinG]
    rw [← Option.some.inj h]
    refine ⟨.tuple [.d (.int .i64 0), .d (.int .i64 r1)], ?_, (by first | exact True.intro | rfl), .tuple [.d (.int .i64 0), .d (.int .i64 r1)], ?_, ?_⟩
    · simp only [go_sem, Tryd.results36, List.length_append, List.length_set, List.length_replicate, reduceCtorEq, ↓reduceIte, Nat.reduceAdd, Nat.reduceMul, Nat.reduceLT, Nat.reduceLeDiff, Nat.reduceEqDiff, Nat.reduceBEq, Int.reduceToNat]
    · simp only [go_sem, lenc_nil, List.take_length, List.length_append, List.length_set, List.length_replicate, reduceCtorEq, ↓reduceIte, Nat.reduceAdd, Nat.reduceMul, Nat.reduceLT, Nat.reduceLeDiff, Nat.reduceEqDiff, Nat.reduceBEq, Int.reduceToNat]
    · (first | exact leV_refl _ | (simp only [go_sem, leV, leVL, leD, leDL, lenc_nil, leD_refl, leDL_refl, lstD_le, reduceCtorEq, ↓reduceIte, Nat.reduceAdd, Nat.reduceMul, Nat.reduceLT, Nat.reduceLeDiff, Nat.reduceEqDiff, Nat.reduceBEq, Int.reduceToNat]; done))
  · rw [hb_6, cond_false] at h
    refine AWp.skip ?_
    simp only [Post.then, Post.inBlock, ↓reduceIte, Nat.reduceEqDiff]
    refine hK_4 _ ?_
    clear hK_4 K_4
    refine AWp.seq fun K_8 hK_8 => ?_
    refine AWp.seq fun K_9 hK_9 => AWp.reg ?_
    iterate 2 (refine AOps.consU fun K' hK' => ?_; simp (disch := omega) only [go_sem, reduceCtorEq, ↓reduceIte, Nat.reduceAdd, Nat.reduceMul, Nat.reduceLT, Nat.reduceLeDiff, Nat.reduceEqDiff, Nat.reduceBEq, Int.reduceToNat]; refine hK' _ ?_; clear hK' K')
    obtain ⟨r2, hx_10, h⟩ := bind_some h
    refine AOps.consU fun K' hK' => ?_; simp (disch := omega) only [go_sem, reduceCtorEq, ↓reduceIte, Nat.reduceAdd, Nat.reduceMul, Nat.reduceLT, Nat.reduceLeDiff, Nat.reduceEqDiff, Nat.reduceBEq, Int.reduceToNat]; refine OpT.call (by rfl) (by rfl) (by kernel_rfl) (m_cocketref01_Walk_ok l1 w1 _ hx_10) (by exact ⟨rfl, rfl, trivial⟩) (by simp only [go_sem, reduceCtorEq, ↓reduceIte, Nat.reduceAdd, Nat.reduceMul, Nat.reduceLT, Nat.reduceLeDiff, Nat.reduceEqDiff, Nat.reduceBEq, Int.reduceToNat]) ?_ (by simp only [go_sem]); simp only [go_sem, reduceCtorEq, ↓reduceIte, Nat.reduceAdd, Nat.reduceMul, Nat.reduceLT, Nat.reduceLeDiff, Nat.reduceEqDiff, Nat.reduceBEq, Int.reduceToNat]; refine hK' _ ?_; clear hK' K'
    iterate 2 (refine AOps.consU fun K' hK' => ?_; simp (disch := omega) only [go_sem, reduceCtorEq, ↓reduceIte, Nat.reduceAdd, Nat.reduceMul, Nat.reduceLT, Nat.reduceLeDiff, Nat.reduceEqDiff, Nat.reduceBEq, Int.reduceToNat]; refine hK' _ ?_; clear hK' K')
    refine AOps.cut 4 (⟨[(1, .d (.imm 4 (lenc Offer.pd l1))), (2, .d (.imm 1 (lenc (PD.int .i64) w1))), (3, .d (.int .i64 amount1)), (26, .d (.bool ((!r2) || (decide (20 < (w1.length : Int))))))], [], [], none⟩) ?_ ?_
    · simp only [List.take_succ_cons, List.take_zero]
      rcases Bool.eq_false_or_eq_true (!r2) with hg_12 | hg_12
      · rw [hg_12]
        iterate 4 (refine AOps.consU fun K' hK' => ?_; simp (disch := omega) only [go_sem, reduceCtorEq, ↓reduceIte, Nat.reduceAdd, Nat.reduceMul, Nat.reduceLT, Nat.reduceLeDiff, Nat.reduceEqDiff, Nat.reduceBEq, Int.reduceToNat]; refine hK' _ ?_; clear hK' K')
        refine AOps.nil ?_
        exact (Sub.mk ⟨rfl, rfl, rfl, rfl, trivial⟩ trivial ⟨trivial, trivial, trivial, trivial, trivial⟩ trivial ⟨rfl, trivial, rfl⟩)
      · rw [hg_12]
        iterate 4 (refine AOps.consU fun K' hK' => ?_; simp (disch := omega) only [go_sem, reduceCtorEq, ↓reduceIte, Nat.reduceAdd, Nat.reduceMul, Nat.reduceLT, Nat.reduceLeDiff, Nat.reduceEqDiff, Nat.reduceBEq, Int.reduceToNat]; refine hK' _ ?_; clear hK' K')
        refine AOps.nil ?_
        exact (Sub.mk ⟨rfl, rfl, rfl, rfl, trivial⟩ trivial ⟨trivial, trivial, trivial, trivial, trivial⟩ trivial ⟨rfl, trivial, rfl⟩)
    simp only [List.drop_succ_cons, List.drop_zero]
    iterate 1 (refine AOps.consU fun K' hK' => ?_; simp (disch := omega) only [go_sem, reduceCtorEq, ↓reduceIte, Nat.reduceAdd, Nat.reduceMul, Nat.reduceLT, Nat.reduceLeDiff, Nat.reduceEqDiff, Nat.reduceBEq, Int.reduceToNat]; refine hK' _ ?_; clear hK' K')
    refine AOps.cut 3 (⟨[(1, .d (.imm 4 (lenc Offer.pd l1))), (2, .d (.imm 1 (lenc (PD.int .i64) w1))), (3, .d (.int .i64 amount1)), (30, .d (.bool (((!r2) || (decide (20 < (w1.length : Int)))) || (decide (amount1 < 0)))))], [], [], none⟩) ?_ ?_
    · simp only [List.take_succ_cons, List.take_zero]
      rcases Bool.eq_false_or_eq_true ((!r2) || (decide (20 < (w1.length : Int)))) with hg_14 | hg_14
      · rw [hg_14]
        iterate 3 (refine AOps.consU fun K' hK' => ?_; simp (disch := omega) only [go_sem, reduceCtorEq, ↓reduceIte, Nat.reduceAdd, Nat.reduceMul, Nat.reduceLT, Nat.reduceLeDiff, Nat.reduceEqDiff, Nat.reduceBEq, Int.reduceToNat]; refine hK' _ ?_; clear hK' K')
        refine AOps.nil ?_
        exact (Sub.mk ⟨rfl, rfl, rfl, rfl, trivial⟩ trivial ⟨trivial, trivial, trivial, trivial, trivial⟩ trivial ⟨rfl, trivial, rfl⟩)
      · rw [hg_14]
        iterate 3 (refine AOps.consU fun K' hK' => ?_; simp (disch := omega) only [go_sem, reduceCtorEq, ↓reduceIte, Nat.reduceAdd, Nat.reduceMul, Nat.reduceLT, Nat.reduceLeDiff, Nat.reduceEqDiff, Nat.reduceBEq, Int.reduceToNat]; refine hK' _ ?_; clear hK' K')
        refine AOps.nil ?_
        exact (Sub.mk ⟨rfl, rfl, rfl, rfl, trivial⟩ trivial ⟨trivial, trivial, trivial, trivial, trivial⟩ trivial ⟨rfl, trivial, rfl⟩)
    simp only [List.drop_succ_cons, List.drop_zero]
    iterate 1 (refine AOps.consU fun K' hK' => ?_; simp (disch := omega) only [go_sem, reduceCtorEq, ↓reduceIte, Nat.reduceAdd, Nat.reduceMul, Nat.reduceLT, Nat.reduceLeDiff, Nat.reduceEqDiff, Nat.reduceBEq, Int.reduceToNat]; refine hK' _ ?_; clear hK' K')
    refine AOps.cut 3 (⟨[(1, .d (.imm 4 (lenc Offer.pd l1))), (2, .d (.imm 1 (lenc (PD.int .i64) w1))), (3, .d (.int .i64 amount1)), (34, .d (.bool ((((!r2) || (decide (20 < (w1.length : Int)))) || (decide (amount1 < 0))) || (decide (1099511627776 < amount1)))))], [], [], none⟩) ?_ ?_
    · simp only [List.take_succ_cons, List.take_zero]
      rcases Bool.eq_false_or_eq_true (((!r2) || (decide (20 < (w1.length : Int)))) || (decide (amount1 < 0))) with hg_16 | hg_16
      · rw [hg_16]
        iterate 3 (refine AOps.consU fun K' hK' => ?_; simp (disch := omega) only [go_sem, reduceCtorEq, ↓reduceIte, Nat.reduceAdd, Nat.reduceMul, Nat.reduceLT, Nat.reduceLeDiff, Nat.reduceEqDiff, Nat.reduceBEq, Int.reduceToNat]; refine hK' _ ?_; clear hK' K')
        refine AOps.nil ?_
        exact (Sub.mk ⟨rfl, rfl, rfl, rfl, trivial⟩ trivial ⟨trivial, trivial, trivial, trivial, trivial⟩ trivial ⟨rfl, trivial, rfl⟩)
      · rw [hg_16]
        iterate 3 (refine AOps.consU fun K' hK' => ?_; simp (disch := omega) only [go_sem, reduceCtorEq, ↓reduceIte, Nat.reduceAdd, Nat.reduceMul, Nat.reduceLT, Nat.reduceLeDiff, Nat.reduceEqDiff, Nat.reduceBEq, Int.reduceToNat]; refine hK' _ ?_; clear hK' K')
        refine AOps.nil ?_
        exact (Sub.mk ⟨rfl, rfl, rfl, rfl, trivial⟩ trivial ⟨trivial, trivial, trivial, trivial, trivial⟩ trivial ⟨rfl, trivial, rfl⟩)
    simp only [List.drop_succ_cons, List.drop_zero]
    refine AOps.nil ?_
    simp only [Post.then]
    refine hK_9 _ ?_
    clear hK_9 K_9
    refine AWp.cond (b := ((((!r2) || (decide (20 < (w1.length : Int)))) || (decide (amount1 < 0))) || (decide (1099511627776 < amount1)))) (by rfl) (fun hb_17 => ?_) (fun hb_17 => ?_)
    · rw [hb_17, cond_true] at h
      refine AWp.seq fun K_18 hK_18 => AWp.reg ?_
      iterate 2 (refine AOps.consU fun K' hK' => ?_; simp (disch := omega) only [go_sem, reduceCtorEq, ↓reduceIte, Nat.reduceAdd, Nat.reduceMul, Nat.reduceLT, Nat.reduceLeDiff, Nat.reduceEqDiff, Nat.reduceBEq, Int.reduceToNat]; refine hK' _ ?_; clear hK' K')
      refine AOps.nil ?_
      simp only [Post.then]
      refine hK_18 _ ?_
      clear hK_18 K_18
      refine AWp.ret ?_
      simp only [Post.then, Post.inBlock, Go.Pv.Fin, Go.Pv.FinG]
      rw [← Option.some.inj h]
      refine ⟨.tuple [.d (.int .i64 0), .d (.int .i64 2)], ?_, (by first | exact True.intro | rfl), .tuple [.d (.int .i64 0), .d (.int .i64 2)], ?_, ?_⟩
      · simp only [go_sem, Tryd.results36, List.length_append, List.length_set, List.length_replicate, reduceCtorEq, ↓reduceIte, Nat.reduceAdd, Nat.reduceMul, Nat.reduceLT, Nat.reduceLeDiff, Nat.reduceEqDiff, Nat.reduceBEq, Int.reduceToNat]
      · simp only [go_sem, lenc_nil, List.take_length, List.length_append, List.length_set, List.length_replicate, reduceCtorEq, ↓reduceIte, Nat.reduceAdd, Nat.reduceMul, Nat.reduceLT, Nat.reduceLeDiff, Nat.reduceEqDiff, Nat.reduceBEq, Int.reduceToNat]
      · (first | exact leV_refl _ | (simp only [go_sem, leV, leVL, leD, leDL, lenc_nil, leD_refl, leDL_refl, lstD_le, reduceCtorEq, ↓reduceIte, Nat.reduceAdd, Nat.reduceMul, Nat.reduceLT, Nat.reduceLeDiff, Nat.reduceEqDiff, Nat.reduceBEq, Int.reduceToNat]; done))
    · rw [hb_17, cond_false] at h
      refine AWp.skip ?_
      simp only [Post.then, Post.inBlock, ↓reduceIte, Nat.reduceEqDiff]
      refine hK_8 _ ?_
      clear hK_8 K_8
      obtain ⟨o_19, hj_20, h⟩ := bind_some h
      refine AWp.seqI (fun i_50 : Int => ⟨[(3, .d (.int .i64 i_50))], [], [], none⟩) (fun i_50 => o_19 = (.inl i_50)) ?_ ?_
      · refine AWp.seq fun K_21 hK_21 => AWp.reg ?_
        iterate 1 (refine AOps.consU fun K' hK' => ?_; simp (disch := omega) only [go_sem, reduceCtorEq, ↓reduceIte, Nat.reduceAdd, Nat.reduceMul, Nat.reduceLT, Nat.reduceLeDiff, Nat.reduceEqDiff, Nat.reduceBEq, Int.reduceToNat]; refine hK' _ ?_; clear hK' K')
        refine AOps.nil ?_
        simp only [Post.then]
        refine hK_21 _ ?_
        clear hK_21 K_21
        refine AWp.block ?_
        obtain ⟨x_26, hl_23, h2_24⟩ := bind_some hj_20
        obtain ⟨n_22, hl_23⟩ := iter_some hl_23
        refine AWp.loopI (fun i_48 : Nat × (Int × Int) => ⟨[(1, .d (.imm 4 (lenc Offer.pd l1))), (2, .d (.imm 1 (lenc (PD.int .i64) w1))), (3, .d (.int .i64 i_48.2.1)), (11, .d (.int .i64 i_48.2.2))], [], [], none⟩) (fun i_48 => iterN (m_cocketref01_Change_l1 l1 w1) i_48.1 i_48.2 = some x_26) (fun i_48 => i_48.1) (n_22, (amount1, 0)) hl_23 (Sub.mk ⟨rfl, rfl, rfl, rfl, trivial⟩ trivial ⟨trivial, trivial, trivial, trivial, trivial⟩ trivial ⟨rfl, trivial, rfl⟩) ?_
        clear hl_23
        rintro ⟨n_22, amount3, i1⟩ hl_23
        try dsimp only at hl_23
        try dsimp only
        cases n_22 with
        | zero => cases hl_23
        | succ n_22 =>
          rw [iterN_succ] at hl_23
          obtain ⟨ob_27, hb_25, hl_23⟩ := bind_some hl_23
          unfold m_cocketref01_Change_l1 at hb_25
          try dsimp only at hb_25
          refine AWp.seq fun K_28 hK_28 => ?_
          refine AWp.seq fun K_29 hK_29 => AWp.reg ?_
          iterate 4 (refine AOps.consU fun K' hK' => ?_; simp (disch := omega) only [go_sem, reduceCtorEq, ↓reduceIte, Nat.reduceAdd, Nat.reduceMul, Nat.reduceLT, Nat.reduceLeDiff, Nat.reduceEqDiff, Nat.reduceBEq, Int.reduceToNat]; refine hK' _ ?_; clear hK' K')
          refine AOps.nil ?_
          simp only [Post.then]
          refine hK_29 _ ?_
          clear hK_29 K_29
          refine AWp.cond (b := (decide (i1 < (w1.length : Int)))) (by rfl) (fun hb_30 => ?_) (fun hb_30 => ?_)
          · rw [hb_30, cond_true] at hb_25
            refine AWp.skip ?_
            simp only [Post.then, Post.inBlock, ↓reduceIte, Nat.reduceEqDiff]
            refine hK_28 _ ?_
            clear hK_28 K_28
            refine AWp.seq fun K_31 hK_31 => ?_
            refine AWp.block ?_
            refine AWp.seq fun K_32 hK_32 => AWp.draw mo [] (by trivial) ?_
            obtain ⟨e1, hx_33, hb_25⟩ := bind_some hb_25
            obtain ⟨f_34, f_35, f_36, f_37⟩ := idx_some hx_33
            obtain ⟨e2, hx_38, hb_25⟩ := bind_some hb_25
            obtain ⟨f_39, f_40, f_41, f_42⟩ := idx_some hx_38
            obtain ⟨hg_43, hb_25⟩ := guardO_some hb_25
            iterate 20 (refine DOps.consU fun K' hK' => ?_; simp (disch := omega) only [go_sem, f_36, f_41, reduceCtorEq, ↓reduceIte, Nat.reduceAdd, Nat.reduceMul, Nat.reduceLT, Nat.reduceLeDiff, Nat.reduceEqDiff, Nat.reduceBEq, Int.reduceToNat]; refine hK' _ _ ?_; clear hK' K'; simp only [List.nil_append, List.cons_append])
            refine DOps.nil (by kernel_rfl) ?_
            simp only [Post.then]
            refine hK_32 _ ?_
            clear hK_32 K_32
            refine AWp.seq fun K_44 hK_44 => AWp.reg ?_
            iterate 2 (refine AOps.consU fun K' hK' => ?_; simp (disch := omega) only [go_sem, reduceCtorEq, ↓reduceIte, Nat.reduceAdd, Nat.reduceMul, Nat.reduceLT, Nat.reduceLeDiff, Nat.reduceEqDiff, Nat.reduceBEq, Int.reduceToNat]; refine hK' _ ?_; clear hK' K')
            refine AOps.nil ?_
            simp only [Post.then]
            refine hK_44 _ ?_
            clear hK_44 K_44
            refine AWp.cond (b := (decide (1099511627776 < (IntKind.i64.wrap ((IntKind.i64.wrap (amount3 * e2.Num)).tdiv e2.Den))))) (by rfl) (fun hb_45 => ?_) (fun hb_45 => ?_)
            · rw [hb_45, cond_true] at hb_25
              refine AWp.seq fun K_46 hK_46 => AWp.reg ?_
              iterate 2 (refine AOps.consU fun K' hK' => ?_; simp (disch := omega) only [go_sem, reduceCtorEq, ↓reduceIte, Nat.reduceAdd, Nat.reduceMul, Nat.reduceLT, Nat.reduceLeDiff, Nat.reduceEqDiff, Nat.reduceBEq, Int.reduceToNat]; refine hK' _ ?_; clear hK' K')
              refine AOps.nil ?_
              simp only [Post.then]
              refine hK_46 _ ?_
              clear hK_46 K_46
              refine AWp.ret ?_
              simp only [Post.then, Post.inBlock, Go.Pv.Fin, Go.Pv.FinG]
              rw [← Option.some.inj hb_25] at hl_23
              try dsimp only at hl_23
              rw [← Option.some.inj hl_23] at h2_24
              try dsimp only at h2_24
              rw [← Option.some.inj h2_24] at h
              try dsimp only at h
              rw [← Option.some.inj h]
              refine ⟨.tuple [.d (.int .i64 0), .d (.int .i64 4)], ?_, (by first | exact True.intro | rfl), .tuple [.d (.int .i64 0), .d (.int .i64 4)], ?_, ?_⟩
              · simp only [go_sem, Tryd.results36, List.length_append, List.length_set, List.length_replicate, reduceCtorEq, ↓reduceIte, Nat.reduceAdd, Nat.reduceMul, Nat.reduceLT, Nat.reduceLeDiff, Nat.reduceEqDiff, Nat.reduceBEq, Int.reduceToNat]
              · simp only [go_sem, lenc_nil, List.take_length, List.length_append, List.length_set, List.length_replicate, reduceCtorEq, ↓reduceIte, Nat.reduceAdd, Nat.reduceMul, Nat.reduceLT, Nat.reduceLeDiff, Nat.reduceEqDiff, Nat.reduceBEq, Int.reduceToNat]
              · (first | exact leV_refl _ | (simp only [go_sem, leV, leVL, leD, leDL, lenc_nil, leD_refl, leDL_refl, lstD_le, reduceCtorEq, ↓reduceIte, Nat.reduceAdd, Nat.reduceMul, Nat.reduceLT, Nat.reduceLeDiff, Nat.reduceEqDiff, Nat.reduceBEq, Int.reduceToNat]; done))
            · rw [hb_45, cond_false] at hb_25
              refine AWp.skip ?_
              simp only [Post.then, Post.inBlock, ↓reduceIte, Nat.reduceEqDiff]
              refine hK_31 _ ?_
              clear hK_31 K_31
              refine AWp.reg ?_
              iterate 3 (refine AOps.consU fun K' hK' => ?_; simp (disch := omega) only [go_sem, reduceCtorEq, ↓reduceIte, Nat.reduceAdd, Nat.reduceMul, Nat.reduceLT, Nat.reduceLeDiff, Nat.reduceEqDiff, Nat.reduceBEq, Int.reduceToNat]; refine hK' _ ?_; clear hK' K')
              refine AOps.nil ?_
              simp only [Post.then, Post.inBlock, ↓reduceIte, Nat.reduceEqDiff]
              rw [← Option.some.inj hb_25] at hl_23
              try dsimp only at hl_23
              exact ⟨(n_22, ((IntKind.i64.wrap ((IntKind.i64.wrap (amount3 * e2.Num)).tdiv e2.Den)), (IntKind.i64.wrap (i1 + 1)))), hl_23, Nat.lt_succ_self n_22, (Sub.mk ⟨rfl, rfl, rfl, rfl, trivial⟩ trivial ⟨trivial, trivial, trivial, trivial, trivial⟩ trivial ⟨rfl, trivial, rfl⟩)⟩
          · rw [hb_30, cond_false] at hb_25
            refine AWp.exit ?_
            simp only [Post.then, Post.inBlock, ↓reduceIte, Nat.reduceEqDiff]
            rw [← Option.some.inj hb_25] at hl_23
            try dsimp only at hl_23
            rw [← Option.some.inj hl_23] at h2_24
            try dsimp only at h2_24
            exact ⟨amount3, (Option.some.inj h2_24).symm, (Sub.mk ⟨rfl, trivial⟩ trivial ⟨trivial, trivial⟩ trivial ⟨rfl, trivial, rfl⟩)⟩
      · rintro amount2 hx_51
        rw [hx_51] at h
        try dsimp only at h
        try dsimp only
        refine AWp.seq fun K_49 hK_49 => AWp.reg ?_
        iterate 3 (refine AOps.consU fun K' hK' => ?_; simp (disch := omega) only [go_sem, reduceCtorEq, ↓reduceIte, Nat.reduceAdd, Nat.reduceMul, Nat.reduceLT, Nat.reduceLeDiff, Nat.reduceEqDiff, Nat.reduceBEq, Int.reduceToNat]; refine hK' _ ?_; clear hK' K')
        refine AOps.nil ?_
        simp only [Post.then]
        refine hK_49 _ ?_
        clear hK_49 K_49
        refine AWp.ret ?_
        simp only [Post.then, Post.inBlock, Go.Pv.Fin, Go.Pv.FinG]
        rw [← Option.some.inj h]
        refine ⟨.tuple [.d (.int .i64 amount2), .d (.int .i64 0)], ?_, (by first | exact True.intro | rfl), .tuple [.d (.int .i64 amount2), .d (.int .i64 0)], ?_, ?_⟩
        · simp only [go_sem, Tryd.results36, List.length_append, List.length_set, List.length_replicate, reduceCtorEq, ↓reduceIte, Nat.reduceAdd, Nat.reduceMul, Nat.reduceLT, Nat.reduceLeDiff, Nat.reduceEqDiff, Nat.reduceBEq, Int.reduceToNat]
        · simp only [go_sem, lenc_nil, List.take_length, List.length_append, List.length_set, List.length_replicate, reduceCtorEq, ↓reduceIte, Nat.reduceAdd, Nat.reduceMul, Nat.reduceLT, Nat.reduceLeDiff, Nat.reduceEqDiff, Nat.reduceBEq, Int.reduceToNat]
        · (first | exact leV_refl _ | (simp only [go_sem, leV, leVL, leD, leDL, lenc_nil, leD_refl, leDL_refl, lstD_le, reduceCtorEq, ↓reduceIte, Nat.reduceAdd, Nat.reduceMul, Nat.reduceLT, Nat.reduceLeDiff, Nat.reduceEqDiff, Nat.reduceBEq, Int.reduceToNat]; done))

end Go.Pv.Tryd

namespace Go.Pv.Tryd
open Go.Proofs Go.Pv

theorem m_cocketlaw01_RateChanges_ok (n1 : Int) (l1 : (List Offer)) (walk1 : (List Int)) (amount1 : Int) (r : Bool) (h : m_cocketlaw01_RateChanges n1 l1 walk1 amount1 = some r) : PureFn Tryd.prog G 10 [.d (.int .i64 n1), .d (.imm 4 (lenc Offer.pd l1)), .d (.imm 1 (lenc (PD.int .i64) walk1)), .d (.int .i64 amount1)] (.d (.bool r)) := by
  unfold m_cocketlaw01_RateChanges at h
  refine PureFn.intro2 Tryd.func10 (by rfl) (by rw [Tryd.ntmps10]; simp) ?_
  rw [Tryd.ntmps10]
  simp only [argEnv, reduceCtorEq, ↓reduceIte, Nat.reduceAdd, Nat.reduceMul, Nat.reduceLT, Nat.reduceLeDiff, Nat.reduceEqDiff, Nat.reduceBEq, Int.reduceToNat]
  refine AWp.seq fun K_1 hK_1 => AWp.reg ?_
  iterate 1 (refine AOps.consU fun K' hK' => ?_; simp (disch := omega) only [go_sem, reduceCtorEq, ↓reduceIte, Nat.reduceAdd, Nat.reduceMul, Nat.reduceLT, Nat.reduceLeDiff, Nat.reduceEqDiff, Nat.reduceBEq, Int.reduceToNat]; refine hK' _ ?_; clear hK' K')
  refine AOps.nil ?_
  simp only [Post.then]
  refine hK_1 _ ?_
  clear hK_1 K_1
  refine AWp.seq fun K_2 hK_2 => ?_
  refine AWp.seq fun K_3 hK_3 => AWp.reg ?_
  iterate 1 (refine AOps.consU fun K' hK' => ?_; simp (disch := omega) only [go_sem, reduceCtorEq, ↓reduceIte, Nat.reduceAdd, Nat.reduceMul, Nat.reduceLT, Nat.reduceLeDiff, Nat.reduceEqDiff, Nat.reduceBEq, Int.reduceToNat]; refine hK' _ ?_; clear hK' K')
  obtain ⟨r1, hx_4, h⟩ := bind_some h
  refine AOps.consU fun K' hK' => ?_; simp (disch := omega) only [go_sem, reduceCtorEq, ↓reduceIte, Nat.reduceAdd, Nat.reduceMul, Nat.reduceLT, Nat.reduceLeDiff, Nat.reduceEqDiff, Nat.reduceBEq, Int.reduceToNat]; refine OpT.call (by rfl) (by rfl) (by kernel_rfl) (m_cocketlaw01_few_ok l1 _ hx_4) (by exact ⟨rfl, trivial⟩) (by simp only [go_sem, reduceCtorEq, ↓reduceIte, Nat.reduceAdd, Nat.reduceMul, Nat.reduceLT, Nat.reduceLeDiff, Nat.reduceEqDiff, Nat.reduceBEq, Int.reduceToNat]) ?_ (by simp only [go_sem]); simp only [go_sem, reduceCtorEq, ↓reduceIte, Nat.reduceAdd, Nat.reduceMul, Nat.reduceLT, Nat.reduceLeDiff, Nat.reduceEqDiff, Nat.reduceBEq, Int.reduceToNat]; refine hK' _ ?_; clear hK' K'
  iterate 2 (refine AOps.consU fun K' hK' => ?_; simp (disch := omega) only [go_sem, reduceCtorEq, ↓reduceIte, Nat.reduceAdd, Nat.reduceMul, Nat.reduceLT, Nat.reduceLeDiff, Nat.reduceEqDiff, Nat.reduceBEq, Int.reduceToNat]; refine hK' _ ?_; clear hK' K')
  refine AOps.cut 4 (⟨[(0, .d (.int .i64 n1)), (1, .d (.imm 4 (lenc Offer.pd l1))), (2, .d (.imm 1 (lenc (PD.int .i64) walk1))), (3, .d (.int .i64 amount1)), (20, .d (.bool ((!r1) || (decide (40 < (walk1.length : Int))))))], [], [], none⟩) ?_ ?_
  · simp only [List.take_succ_cons, List.take_zero]
    rcases Bool.eq_false_or_eq_true (!r1) with hg_6 | hg_6
    · rw [hg_6]
      iterate 4 (refine AOps.consU fun K' hK' => ?_; simp (disch := omega) only [go_sem, reduceCtorEq, ↓reduceIte, Nat.reduceAdd, Nat.reduceMul, Nat.reduceLT, Nat.reduceLeDiff, Nat.reduceEqDiff, Nat.reduceBEq, Int.reduceToNat]; refine hK' _ ?_; clear hK' K')
      refine AOps.nil ?_
      exact (Sub.mk ⟨rfl, rfl, rfl, rfl, rfl, trivial⟩ trivial ⟨trivial, trivial, trivial, trivial, trivial, trivial⟩ trivial ⟨rfl, trivial, rfl⟩)
    · rw [hg_6]
      iterate 4 (refine AOps.consU fun K' hK' => ?_; simp (disch := omega) only [go_sem, reduceCtorEq, ↓reduceIte, Nat.reduceAdd, Nat.reduceMul, Nat.reduceLT, Nat.reduceLeDiff, Nat.reduceEqDiff, Nat.reduceBEq, Int.reduceToNat]; refine hK' _ ?_; clear hK' K')
      refine AOps.nil ?_
      exact (Sub.mk ⟨rfl, rfl, rfl, rfl, rfl, trivial⟩ trivial ⟨trivial, trivial, trivial, trivial, trivial, trivial⟩ trivial ⟨rfl, trivial, rfl⟩)
  simp only [List.drop_succ_cons, List.drop_zero]
  refine AOps.nil ?_
  simp only [Post.then]
  refine hK_3 _ ?_
  clear hK_3 K_3
  refine AWp.cond (b := ((!r1) || (decide (40 < (walk1.length : Int))))) (by rfl) (fun hb_7 => ?_) (fun hb_7 => ?_)
  · rw [hb_7, cond_true] at h
    refine AWp.seq fun K_8 hK_8 => AWp.reg ?_
    obtain ⟨r2, hx_9, h⟩ := bind_some h
    refine AOps.consU fun K' hK' => ?_; simp (disch := omega) only [go_sem, reduceCtorEq, ↓reduceIte, Nat.reduceAdd, Nat.reduceMul, Nat.reduceLT, Nat.reduceLeDiff, Nat.reduceEqDiff, Nat.reduceBEq, Int.reduceToNat]; refine OpT.call (by rfl) (by rfl) (by kernel_rfl) (m_cocketlaw01_alive_ok _ hx_9) (by exact trivial) (by simp only [go_sem, reduceCtorEq, ↓reduceIte, Nat.reduceAdd, Nat.reduceMul, Nat.reduceLT, Nat.reduceLeDiff, Nat.reduceEqDiff, Nat.reduceBEq, Int.reduceToNat]) ?_ (by simp only [go_sem]); simp only [go_sem, reduceCtorEq, ↓reduceIte, Nat.reduceAdd, Nat.reduceMul, Nat.reduceLT, Nat.reduceLeDiff, Nat.reduceEqDiff, Nat.reduceBEq, Int.reduceToNat]; refine hK' _ ?_; clear hK' K'
    iterate 1 (refine AOps.consU fun K' hK' => ?_; simp (disch := omega) only [go_sem, reduceCtorEq, ↓reduceIte, Nat.reduceAdd, Nat.reduceMul, Nat.reduceLT, Nat.reduceLeDiff, Nat.reduceEqDiff, Nat.reduceBEq, Int.reduceToNat]; refine hK' _ ?_; clear hK' K')
    refine AOps.nil ?_
    simp only [Post.then]
    refine hK_8 _ ?_
    clear hK_8 K_8
    refine AWp.ret ?_
    simp only [Post.then, Post.inBlock, Go.Pv.Fin, Go.Pv.FinG]
    rw [← Option.some.inj h]
    refine ⟨.d (.bool r2), ?_, (by first | exact True.intro | rfl), .d (.bool r2), ?_, ?_⟩
    · simp only [go_sem, Tryd.results10, List.length_append, List.length_set, List.length_replicate, reduceCtorEq, ↓reduceIte, Nat.reduceAdd, Nat.reduceMul, Nat.reduceLT, Nat.reduceLeDiff, Nat.reduceEqDiff, Nat.reduceBEq, Int.reduceToNat]
    · simp only [go_sem, lenc_nil, List.take_length, List.length_append, List.length_set, List.length_replicate, reduceCtorEq, ↓reduceIte, Nat.reduceAdd, Nat.reduceMul, Nat.reduceLT, Nat.reduceLeDiff, Nat.reduceEqDiff, Nat.reduceBEq, Int.reduceToNat]
    · (first | exact leV_refl _ | (simp only [go_sem, leV, leVL, leD, leDL, lenc_nil, leD_refl, leDL_refl, lstD_le, reduceCtorEq, ↓reduceIte, Nat.reduceAdd, Nat.reduceMul, Nat.reduceLT, Nat.reduceLeDiff, Nat.reduceEqDiff, Nat.reduceBEq, Int.reduceToNat]; done))
  · rw [hb_7, cond_false] at h
    refine AWp.skip ?_
    simp only [Post.then, Post.inBlock, ↓reduceIte, Nat.reduceEqDiff]
    refine hK_2 _ ?_
    clear hK_2 K_2
    refine AWp.seq fun K_10 hK_10 => AWp.reg ?_
    iterate 4 (refine AOps.consU fun K' hK' => ?_; simp (disch := omega) only [go_sem, reduceCtorEq, ↓reduceIte, Nat.reduceAdd, Nat.reduceMul, Nat.reduceLT, Nat.reduceLeDiff, Nat.reduceEqDiff, Nat.reduceBEq, Int.reduceToNat]; refine hK' _ ?_; clear hK' K')
    obtain ⟨r3, hx_11, h⟩ := bind_some h
    refine AOps.consU fun K' hK' => ?_; simp (disch := omega) only [go_sem, reduceCtorEq, ↓reduceIte, Nat.reduceAdd, Nat.reduceMul, Nat.reduceLT, Nat.reduceLeDiff, Nat.reduceEqDiff, Nat.reduceBEq, Int.reduceToNat]; refine OpT.call (by rfl) (by rfl) (by kernel_rfl) (m_rate_Change_ok n1 l1 walk1 amount1 _ hx_11) (by exact ⟨rfl, rfl, rfl, rfl, trivial⟩) (by simp only [go_sem, reduceCtorEq, ↓reduceIte, Nat.reduceAdd, Nat.reduceMul, Nat.reduceLT, Nat.reduceLeDiff, Nat.reduceEqDiff, Nat.reduceBEq, Int.reduceToNat]) ?_ (by simp only [go_sem]); simp only [go_sem, reduceCtorEq, ↓reduceIte, Nat.reduceAdd, Nat.reduceMul, Nat.reduceLT, Nat.reduceLeDiff, Nat.reduceEqDiff, Nat.reduceBEq, Int.reduceToNat]; refine hK' _ ?_; clear hK' K'
    iterate 5 (refine AOps.consU fun K' hK' => ?_; simp (disch := omega) only [go_sem, reduceCtorEq, ↓reduceIte, Nat.reduceAdd, Nat.reduceMul, Nat.reduceLT, Nat.reduceLeDiff, Nat.reduceEqDiff, Nat.reduceBEq, Int.reduceToNat]; refine hK' _ ?_; clear hK' K')
    refine AOps.nil ?_
    simp only [Post.then]
    refine hK_10 _ ?_
    clear hK_10 K_10
    refine AWp.seq fun K_12 hK_12 => AWp.reg ?_
    iterate 4 (refine AOps.consU fun K' hK' => ?_; simp (disch := omega) only [go_sem, reduceCtorEq, ↓reduceIte, Nat.reduceAdd, Nat.reduceMul, Nat.reduceLT, Nat.reduceLeDiff, Nat.reduceEqDiff, Nat.reduceBEq, Int.reduceToNat]; refine hK' _ ?_; clear hK' K')
    obtain ⟨r4, hx_13, h⟩ := bind_some h
    refine AOps.consU fun K' hK' => ?_; simp (disch := omega) only [go_sem, reduceCtorEq, ↓reduceIte, Nat.reduceAdd, Nat.reduceMul, Nat.reduceLT, Nat.reduceLeDiff, Nat.reduceEqDiff, Nat.reduceBEq, Int.reduceToNat]; refine OpT.call (by rfl) (by rfl) (by kernel_rfl) (m_cocketref01_Change_ok n1 l1 walk1 amount1 _ hx_13) (by exact ⟨rfl, rfl, rfl, rfl, trivial⟩) (by simp only [go_sem, reduceCtorEq, ↓reduceIte, Nat.reduceAdd, Nat.reduceMul, Nat.reduceLT, Nat.reduceLeDiff, Nat.reduceEqDiff, Nat.reduceBEq, Int.reduceToNat]) ?_ (by simp only [go_sem]); simp only [go_sem, reduceCtorEq, ↓reduceIte, Nat.reduceAdd, Nat.reduceMul, Nat.reduceLT, Nat.reduceLeDiff, Nat.reduceEqDiff, Nat.reduceBEq, Int.reduceToNat]; refine hK' _ ?_; clear hK' K'
    iterate 5 (refine AOps.consU fun K' hK' => ?_; simp (disch := omega) only [go_sem, reduceCtorEq, ↓reduceIte, Nat.reduceAdd, Nat.reduceMul, Nat.reduceLT, Nat.reduceLeDiff, Nat.reduceEqDiff, Nat.reduceBEq, Int.reduceToNat]; refine hK' _ ?_; clear hK' K')
    refine AOps.nil ?_
    simp only [Post.then]
    refine hK_12 _ ?_
    clear hK_12 K_12
    refine AWp.seq fun K_14 hK_14 => AWp.reg ?_
    iterate 4 (refine AOps.consU fun K' hK' => ?_; simp (disch := omega) only [go_sem, reduceCtorEq, ↓reduceIte, Nat.reduceAdd, Nat.reduceMul, Nat.reduceLT, Nat.reduceLeDiff, Nat.reduceEqDiff, Nat.reduceBEq, Int.reduceToNat]; refine hK' _ ?_; clear hK' K')
    refine AOps.cut 4 (⟨[(45, .d (.bool ((decide (r3.1 = r4.1)) && (decide (r3.2 = r4.2)))))], [], [], none⟩) ?_ ?_
    · simp only [List.take_succ_cons, List.take_zero]
      rcases Bool.eq_false_or_eq_true (decide (r3.1 = r4.1)) with hg_16 | hg_16
      · rw [hg_16]
        iterate 4 (refine AOps.consU fun K' hK' => ?_; simp (disch := omega) only [go_sem, reduceCtorEq, ↓reduceIte, Nat.reduceAdd, Nat.reduceMul, Nat.reduceLT, Nat.reduceLeDiff, Nat.reduceEqDiff, Nat.reduceBEq, Int.reduceToNat]; refine hK' _ ?_; clear hK' K')
        refine AOps.nil ?_
        exact (Sub.mk ⟨rfl, trivial⟩ trivial ⟨trivial, trivial⟩ trivial ⟨rfl, trivial, rfl⟩)
      · rw [hg_16]
        iterate 4 (refine AOps.consU fun K' hK' => ?_; simp (disch := omega) only [go_sem, reduceCtorEq, ↓reduceIte, Nat.reduceAdd, Nat.reduceMul, Nat.reduceLT, Nat.reduceLeDiff, Nat.reduceEqDiff, Nat.reduceBEq, Int.reduceToNat]; refine hK' _ ?_; clear hK' K')
        refine AOps.nil ?_
        exact (Sub.mk ⟨rfl, trivial⟩ trivial ⟨trivial, trivial⟩ trivial ⟨rfl, trivial, rfl⟩)
    simp only [List.drop_succ_cons, List.drop_zero]
    iterate 1 (refine AOps.consU fun K' hK' => ?_; simp (disch := omega) only [go_sem, reduceCtorEq, ↓reduceIte, Nat.reduceAdd, Nat.reduceMul, Nat.reduceLT, Nat.reduceLeDiff, Nat.reduceEqDiff, Nat.reduceBEq, Int.reduceToNat]; refine hK' _ ?_; clear hK' K')
    obtain ⟨b1, hc_17, h⟩ := bind_some h
    refine AOps.cut 2 (⟨[(48, .d (.bool b1))], [], [], none⟩) ?_ ?_
    · simp only [List.take_succ_cons, List.take_zero]
      rcases Bool.eq_false_or_eq_true ((decide (r3.1 = r4.1)) && (decide (r3.2 = r4.2))) with hg_19 | hg_19
      · rw [hg_19]
        rw [hg_19, cond_true] at hc_17
        obtain ⟨r5, hx_18, hc_17⟩ := bind_some hc_17
        refine AOps.consU fun K' hK' => ?_; simp (disch := omega) only [go_sem, reduceCtorEq, ↓reduceIte, Nat.reduceAdd, Nat.reduceMul, Nat.reduceLT, Nat.reduceLeDiff, Nat.reduceEqDiff, Nat.reduceBEq, Int.reduceToNat]; refine OpT.call (by rfl) (by rfl) (by kernel_rfl) (m_cocketlaw01_alive_ok _ hx_18) (by exact trivial) (by simp only [go_sem, reduceCtorEq, ↓reduceIte, Nat.reduceAdd, Nat.reduceMul, Nat.reduceLT, Nat.reduceLeDiff, Nat.reduceEqDiff, Nat.reduceBEq, Int.reduceToNat]) ?_ (by simp only [go_sem]); simp only [go_sem, reduceCtorEq, ↓reduceIte, Nat.reduceAdd, Nat.reduceMul, Nat.reduceLT, Nat.reduceLeDiff, Nat.reduceEqDiff, Nat.reduceBEq, Int.reduceToNat]; refine hK' _ ?_; clear hK' K'
        iterate 1 (refine AOps.consU fun K' hK' => ?_; simp (disch := omega) only [go_sem, reduceCtorEq, ↓reduceIte, Nat.reduceAdd, Nat.reduceMul, Nat.reduceLT, Nat.reduceLeDiff, Nat.reduceEqDiff, Nat.reduceBEq, Int.reduceToNat]; refine hK' _ ?_; clear hK' K')
        refine AOps.nil ?_
        have hc_17 := Option.some.inj hc_17
        subst hc_17
        exact (Sub.mk ⟨rfl, trivial⟩ trivial ⟨trivial, trivial⟩ trivial ⟨rfl, trivial, rfl⟩)
      · rw [hg_19]
        rw [hg_19, cond_false] at hc_17
        iterate 2 (refine AOps.consU fun K' hK' => ?_; simp (disch := omega) only [go_sem, reduceCtorEq, ↓reduceIte, Nat.reduceAdd, Nat.reduceMul, Nat.reduceLT, Nat.reduceLeDiff, Nat.reduceEqDiff, Nat.reduceBEq, Int.reduceToNat]; refine hK' _ ?_; clear hK' K')
        refine AOps.nil ?_
        have hc_17 := Option.some.inj hc_17
        subst hc_17
        exact (Sub.mk ⟨rfl, trivial⟩ trivial ⟨trivial, trivial⟩ trivial ⟨rfl, trivial, rfl⟩)
    simp only [List.drop_succ_cons, List.drop_zero]
    iterate 1 (refine AOps.consU fun K' hK' => ?_; simp (disch := omega) only [go_sem, reduceCtorEq, ↓reduceIte, Nat.reduceAdd, Nat.reduceMul, Nat.reduceLT, Nat.reduceLeDiff, Nat.reduceEqDiff, Nat.reduceBEq, Int.reduceToNat]; refine hK' _ ?_; clear hK' K')
    refine AOps.nil ?_
    simp only [Post.then]
    refine hK_14 _ ?_
    clear hK_14 K_14
    refine AWp.ret ?_
    simp only [Post.then, Post.inBlock, Go.Pv.Fin, Go.Pv.FinG]
    rw [← Option.some.inj h]
    refine ⟨.d (.bool b1), ?_, (by first | exact True.intro | rfl), .d (.bool b1), ?_, ?_⟩
    · simp only [go_sem, Tryd.results10, List.length_append, List.length_set, List.length_replicate, reduceCtorEq, ↓reduceIte, Nat.reduceAdd, Nat.reduceMul, Nat.reduceLT, Nat.reduceLeDiff, Nat.reduceEqDiff, Nat.reduceBEq, Int.reduceToNat]
    · simp only [go_sem, lenc_nil, List.take_length, List.length_append, List.length_set, List.length_replicate, reduceCtorEq, ↓reduceIte, Nat.reduceAdd, Nat.reduceMul, Nat.reduceLT, Nat.reduceLeDiff, Nat.reduceEqDiff, Nat.reduceBEq, Int.reduceToNat]
    · (first | exact leV_refl _ | (simp only [go_sem, leV, leVL, leD, leDL, lenc_nil, leD_refl, leDL_refl, lstD_le, reduceCtorEq, ↓reduceIte, Nat.reduceAdd, Nat.reduceMul, Nat.reduceLT, Nat.reduceLeDiff, Nat.reduceEqDiff, Nat.reduceBEq, Int.reduceToNat]; done))

end Go.Pv.Tryd

namespace Go.Pv.Tryd
open Go Go.Proofs Go.Pv Go.ChangeShapes Go.WideShapes Go.ChangeAt Go.RowKit Go.Proofs.YtmnemlihimnofaaDoor

set_option maxRecDepth 100000 in
theorem changes_lifted (os : Os) (started : os.Started) (H : Type) (enc : TypeId × Value → H) :
    ReturnsInHanded {} Tryd.checked os 10 .any (fun w args => (Rows.rateChangesSpec.pre enc Tryd.prog Tryd.f10 [] false w args ∧ laidMetH Tryd.prog laid1 w) ∧ sizedMet enc Tryd.prog Tryd.f10 (OpenSpec.ofChange Rows.rateChangesSpec) false w args)
      (Rows.rateChangesSpec.post enc Tryd.prog Tryd.f10 false true false false) := by
  refine returnsInHanded_of_change_and (C := Tryd.checked) (X := fun w _ => laidMetH Tryd.prog laid1 w) (fun _ _ _ hh h => h.of_heap hh) own started (by kernel_rfl) Tryd.func10
    (ChangeSpec.witness_shaped (enc := enc) (C := Tryd.checked) (os := os) (X := fun w _ => laidMetH Tryd.prog laid1 w) false (World.doorLaid Tryd.prog 400 os) #[.int .i64 0, .slice none 0 0, .slice none 0 0, .int .i64 0] 8 rfl (World.shaped_of_RefB (by kernel_rfl) (by kernel_rfl)) (by kernel_rfl) (by kernel_rfl) (by kernel_rfl) (door_met os _)) ?_
  intro W base args ds gs before hval0 hW _ _ hL _
  have hval : ∀ (j : Nat) t v, Tryd.f10.params[j]? = some t → args[j]? = some v → Value.okWide Tryd.prog W .any base t v := hval0
  have hW' := hW
  obtain ⟨p, q, hA0, hV, rfl, hfz, hnd⟩ := hW
  have hA : DataW.TrodAll enc Tryd.prog W 0 (fun _ => true) true Tryd.f10.params.toList args.toList ds p := hA0
  obtain ⟨rfl, rfl⟩ := trodVars_none hV
  rw [Tryd.params10] at hA hval
  obtain ⟨v0, vs0, d0, ds0, p0, q0, ha, rfl, rfl, t0, hA⟩ := trodAll_cons hA
  obtain ⟨v1, vs1, d1, ds1, p1, q1, rfl, rfl, rfl, t1, hA⟩ := trodAll_cons hA
  obtain ⟨v2, vs2, d2, ds2, p2, q2, rfl, rfl, rfl, t2, hA⟩ := trodAll_cons hA
  obtain ⟨v3, vs3, d3, ds3, p3, q3, rfl, rfl, rfl, t3, hA⟩ := trodAll_cons hA
  obtain ⟨rfl, rfl, rfl⟩ := trodAll_nil hA
  have hargs : args = #[v0, v1, v2, v3] := Array.toList_inj.1 ha
  subst hargs
  obtain ⟨n, r0⟩ := rep_arg_int Tryd.underlying3 (hval 0 3 v0 rfl rfl)
  obtain ⟨l, r1⟩ := rep_arg_slice Tryd.underlying22 opens_Offer (by decide) (hval 1 22 v1 rfl rfl) t1
  obtain ⟨k, r2⟩ := rep_arg_slice Tryd.underlying27 (opens_int Tryd.underlying3 (by kernel_rfl)) (by decide) (hval 2 27 v2 rfl rfl) t2
  obtain ⟨a, r3⟩ := rep_arg_int Tryd.underlying3 (hval 3 3 v3 rfl rfl)
  have hw := calls_of_pure (args := [.int .i64 n, .imm 4 (lenc Offer.pd l), .imm 1 (lenc (PD.int .i64) k), .int .i64 a]) (vs := [v0, v1, v2, v3]) (m_cocketlaw01_RateChanges_ok n l k a true (RateChanges_law n l k a)) rfl (fun i hi => by
    match i, hi with
    | 0, _ => exact r0
    | 1, _ => exact r1
    | 2, _ => exact r2
    | 3, _ => exact r3) (glob_of_laid hL)
  refine hw.mono fun e W' ⟨he, hs⟩ => ?_
  subst he
  exact ⟨_, rfl, law_post rfl hW' hs rfl (t := 4) (by rfl) Tryd.underlying4 laidOut (by kernel_rfl)⟩

theorem changes_said : Rows.RateChangesSaid :=
  OpenClaim.holds_of_wide 10 Tryd.f10 rfl rfl rfl rfl rfl rfl rfl ⟨rfl, rfl, rfl, rfl, rfl⟩ rfl rfl rfl rfl rfl (by kernel_rfl) Tryd.func10 (by kernel_rfl)
    (of_decide_eq_true (by kernel_rfl)) (by unfold Func.isWrapper; first | (rw [if_pos (by decide +kernel)]; kernel_rfl) | (rw [if_neg (by decide +kernel)]; exact ⟨rfl, rfl⟩))
    (fun os started H enc _ => changes_lifted os started H enc)

theorem changes_card : Rows.RateChangesCardSaid :=
  Claim7.holds_tied_plain_at .later [] [.data] true Rows.rateChangesCard.stood.harness false
    changes_said (fun _ h => by cases h) (by kernel_rfl) (fun _ h => by cases h) rateChanges_row_tie rfl ⟨rfl, rfl⟩ (by kernel_rfl) rfl
    (fun f fn hf hfn => by
      obtain rfl : f = 10 := Option.some.inj ((show Tryd.prog.funcNamed Rows.rateChangesRow.func = some 10 by kernel_rfl).symm.trans hf) |>.symm
      obtain rfl : fn = Tryd.f10 := (Option.some.inj (Tryd.func10.symm.trans hfn)).symm
      exact ⟨by kernel_rfl, fun j t ht => by
        rw [Tryd.params10] at ht
        have hm : t ∈ [3, 22, 27, 3] := by simpa using Array.mem_of_getElem? ht
        have hall : ([3, 22, 27, 3].all fun u => !Tryd.prog.wantsStandIn u) = true := by kernel_rfl
        exact (show Tryd.prog.wantsStandIn t = false by simpa using List.all_eq_true.1 hall t hm)⟩)
    (by kernel_rfl)

end Go.Pv.Tryd

namespace Go.Proofs.YtmnemlihimnofaaDoor

theorem changes_card : Rows.RateChangesCardSaid := Go.Pv.Tryd.changes_card

#print axioms changes_card

end Go.Proofs.YtmnemlihimnofaaDoor
