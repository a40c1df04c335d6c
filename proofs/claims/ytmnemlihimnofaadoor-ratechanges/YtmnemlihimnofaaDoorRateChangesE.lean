/- RateChanges: for every input, of whatever size and sharing, the law returns true and its arguments read as before; conditions: the variable rate.one starts as the text lays it (tied by the card). Part 5 of 6: by one AI agent and its programs; no person has read it. -/
import Derived.Test.YtmnemlihimnofaaDoorRateChangesA
import Derived.Test.YtmnemlihimnofaaDoorRateChangesB
import Derived.Test.YtmnemlihimnofaaDoorRateChangesC
import Derived.Test.YtmnemlihimnofaaDoorRateChangesD
set_option linter.unusedSimpArgs false
set_option linter.unusedVariables false
set_option linter.all false

namespace Go.Pv.Tryd
open Go.Proofs Go.Pv

theorem m_rate_market_best_ok (m1 : Market) (from1 : Int) (to1 : Int) (r : (Walk × Bool)) (h : m_rate_market_best m1 from1 to1 = some r) : PureFn Tryd.prog G 55 [.d (.agg [(.int .i64 m1.n), (.imm 4 (lenc Offer.pd m1.offers))]), .d (.int .i64 from1), .d (.int .i64 to1)] (.tuple [.d (.agg [(lstD 1 (lenc (PD.int .i64) r.1.list)), (.int .i64 r.1.rate.Num), (.int .i64 r.1.rate.Den), (.int .i64 r.1.to)]), .d (.bool r.2)]) := by
  unfold m_rate_market_best at h
  refine PureFn.intro2 Tryd.func55 (by rfl) (by rw [Tryd.ntmps55]; simp) ?_
  rw [Tryd.ntmps55]
  simp only [argEnv, reduceCtorEq, ↓reduceIte, Nat.reduceAdd, Nat.reduceMul, Nat.reduceLT, Nat.reduceLeDiff, Nat.reduceEqDiff, Nat.reduceBEq, Int.reduceToNat]
  refine AWp.seq fun K_1 hK_1 => AWp.reg ?_
  iterate 4 (refine AOps.consU fun K' hK' => ?_; simp (disch := omega) only [go_sem, reduceCtorEq, ↓reduceIte, Nat.reduceAdd, Nat.reduceMul, Nat.reduceLT, Nat.reduceLeDiff, Nat.reduceEqDiff, Nat.reduceBEq, Int.reduceToNat]; refine hK' _ ?_; clear hK' K')
  refine AOps.nil ?_
  simp only [Post.then]
  refine hK_1 _ ?_
  clear hK_1 K_1
  refine AWp.seq fun K_2 hK_2 => ?_
  refine AWp.seq fun K_3 hK_3 => AWp.reg ?_
  iterate 3 (refine AOps.consU fun K' hK' => ?_; simp (disch := omega) only [go_sem, reduceCtorEq, ↓reduceIte, Nat.reduceAdd, Nat.reduceMul, Nat.reduceLT, Nat.reduceLeDiff, Nat.reduceEqDiff, Nat.reduceBEq, Int.reduceToNat]; refine hK' _ ?_; clear hK' K')
  refine AOps.nil ?_
  simp only [Post.then]
  refine hK_3 _ ?_
  clear hK_3 K_3
  refine AWp.cond (b := (decide (from1 = to1))) (by rfl) (fun hb_4 => ?_) (fun hb_4 => ?_)
  · rw [hb_4, cond_true] at h
    refine AWp.seq fun K_5 hK_5 => AWp.reg ?_
    iterate 4 (refine AOps.consU fun K' hK' => ?_; simp (disch := omega) only [go_sem, reduceCtorEq, ↓reduceIte, Nat.reduceAdd, Nat.reduceMul, Nat.reduceLT, Nat.reduceLeDiff, Nat.reduceEqDiff, Nat.reduceBEq, Int.reduceToNat]; refine hK' _ ?_; clear hK' K')
    refine AOps.nil ?_
    simp only [Post.then]
    refine hK_5 _ ?_
    clear hK_5 K_5
    refine AWp.ret ?_
    simp only [Post.then, Post.inBlock, Go.Pv.Fin, Go.Pv.FinG]
    rw [← Option.some.inj h]
    refine ⟨.tuple [.d (.agg [.nilslice, (.int .i64 1), (.int .i64 1), (.int .i64 0)]), .d (.bool true)], ?_, (by first | exact True.intro | rfl), .tuple [.d (.agg [.nilslice, (.int .i64 1), (.int .i64 1), (.int .i64 0)]), .d (.bool true)], ?_, ?_⟩
    · simp only [go_sem, Tryd.results55, List.length_append, List.length_set, List.length_replicate, reduceCtorEq, ↓reduceIte, Nat.reduceAdd, Nat.reduceMul, Nat.reduceLT, Nat.reduceLeDiff, Nat.reduceEqDiff, Nat.reduceBEq, Int.reduceToNat]
    · simp only [go_sem, lenc_nil, List.take_length, List.length_append, List.length_set, List.length_replicate, reduceCtorEq, ↓reduceIte, Nat.reduceAdd, Nat.reduceMul, Nat.reduceLT, Nat.reduceLeDiff, Nat.reduceEqDiff, Nat.reduceBEq, Int.reduceToNat]
    · (first | exact leV_refl _ | (simp only [go_sem, leV, leVL, leD, leDL, lenc_nil, leD_refl, leDL_refl, lstD_le, reduceCtorEq, ↓reduceIte, Nat.reduceAdd, Nat.reduceMul, Nat.reduceLT, Nat.reduceLeDiff, Nat.reduceEqDiff, Nat.reduceBEq, Int.reduceToNat]; done))
  · rw [hb_4, cond_false] at h
    refine AWp.skip ?_
    simp only [Post.then, Post.inBlock, ↓reduceIte, Nat.reduceEqDiff]
    refine hK_2 _ ?_
    clear hK_2 K_2
    refine AWp.seq fun K_6 hK_6 => AWp.reg ?_
    iterate 5 (refine AOps.consU fun K' hK' => ?_; simp (disch := omega) only [go_sem, reduceCtorEq, ↓reduceIte, Nat.reduceAdd, Nat.reduceMul, Nat.reduceLT, Nat.reduceLeDiff, Nat.reduceEqDiff, Nat.reduceBEq, Int.reduceToNat]; refine hK' _ ?_; clear hK' K')
    refine AOps.nil ?_
    simp only [Post.then]
    refine hK_6 _ ?_
    clear hK_6 K_6
    obtain ⟨o_7, hj_8, h⟩ := bind_some h
    refine AWp.seqI (fun i_47 : (Walk × Bool) => ⟨[(6, .ptr 1002 0 0), (8, .ptr 1003 0 0), (9, .ptr 1004 0 0)], [(1002, ⟨83, 4, [.d (.agg [.nilslice, (.int .i64 0), (.int .i64 0), (.int .i64 0)])]⟩), (1003, ⟨83, 4, [.d (.agg [(lstD 1 (lenc (PD.int .i64) i_47.1.list)), (.int .i64 i_47.1.rate.Num), (.int .i64 i_47.1.rate.Den), (.int .i64 i_47.1.to)])]⟩), (1004, ⟨4, 1, [.d (.bool i_47.2)]⟩)], [], none⟩) (fun i_47 => o_7 = i_47) ?_ ?_
    · refine AWp.seq fun K_9 hK_9 => AWp.reg ?_
      iterate 1 (refine AOps.consU fun K' hK' => ?_; simp (disch := omega) only [go_sem, reduceCtorEq, ↓reduceIte, Nat.reduceAdd, Nat.reduceMul, Nat.reduceLT, Nat.reduceLeDiff, Nat.reduceEqDiff, Nat.reduceBEq, Int.reduceToNat]; refine hK' _ ?_; clear hK' K')
      refine AOps.nil ?_
      simp only [Post.then]
      refine hK_9 _ ?_
      clear hK_9 K_9
      refine AWp.block ?_
      obtain ⟨x_14, hl_11, h2_12⟩ := bind_some hj_8
      obtain ⟨n_10, hl_11⟩ := iter_some hl_11
      refine AWp.loopI (fun i_45 : Nat × (Int × Walk × Bool) => ⟨[(1, .d (.int .i64 from1)), (3, .ptr 1000 0 0), (5, .ptr 1001 0 0), (6, .ptr 1002 0 0), (8, .ptr 1003 0 0), (9, .ptr 1004 0 0), (10, .d (.int .i64 i_45.2.1))], [(1000, ⟨77, 2, [.d (.agg [(.int .i64 m1.n), (.imm 4 (lenc Offer.pd m1.offers))])]⟩), (1001, ⟨3, 1, [.d (.int .i64 to1)]⟩), (1002, ⟨83, 4, [.d (.agg [.nilslice, (.int .i64 0), (.int .i64 0), (.int .i64 0)])]⟩), (1003, ⟨83, 4, [.d (.agg [(lstD 1 (lenc (PD.int .i64) i_45.2.2.1.list)), (.int .i64 i_45.2.2.1.rate.Num), (.int .i64 i_45.2.2.1.rate.Den), (.int .i64 i_45.2.2.1.to)])]⟩), (1004, ⟨4, 1, [.d (.bool i_45.2.2.2)]⟩)], [], none⟩) (fun i_45 => iterN (m_rate_market_best_l1 m1 from1 to1) i_45.1 i_45.2 = some x_14) (fun i_45 => i_45.1) (n_10, (1, (⟨[], (⟨0, 0⟩ : Ratio), 0⟩ : Walk), false)) hl_11 (Sub.mk ⟨rfl, rfl, rfl, rfl, rfl, rfl, rfl, trivial⟩ ⟨rfl, rfl, rfl, rfl, rfl, trivial⟩ ⟨trivial, rfl, rfl, rfl, rfl, rfl, trivial, trivial⟩ ⟨⟨trivial, trivial⟩, ⟨trivial, trivial⟩, ⟨trivial, trivial⟩, ⟨trivial, trivial⟩, ⟨trivial, trivial⟩, trivial⟩ ⟨rfl, trivial, rfl⟩) ?_
      clear hl_11
      rintro ⟨n_10, length1, c3, c4⟩ hl_11
      try dsimp only at hl_11
      try dsimp only
      cases n_10 with
      | zero => cases hl_11
      | succ n_10 =>
        rw [iterN_succ] at hl_11
        obtain ⟨ob_15, hb_13, hl_11⟩ := bind_some hl_11
        unfold m_rate_market_best_l1 at hb_13
        try dsimp only at hb_13
        refine AWp.seq fun K_16 hK_16 => ?_
        refine AWp.seq fun K_17 hK_17 => AWp.reg ?_
        iterate 4 (refine AOps.consU fun K' hK' => ?_; simp (disch := omega) only [go_sem, reduceCtorEq, ↓reduceIte, Nat.reduceAdd, Nat.reduceMul, Nat.reduceLT, Nat.reduceLeDiff, Nat.reduceEqDiff, Nat.reduceBEq, Int.reduceToNat]; refine hK' _ ?_; clear hK' K')
        refine AOps.nil ?_
        simp only [Post.then]
        refine hK_17 _ ?_
        clear hK_17 K_17
        refine AWp.cond (b := (decide (length1 < m1.n))) (by rfl) (fun hb_18 => ?_) (fun hb_18 => ?_)
        · rw [hb_18, cond_true] at hb_13
          refine AWp.skip ?_
          simp only [Post.then, Post.inBlock, ↓reduceIte, Nat.reduceEqDiff]
          refine hK_16 _ ?_
          clear hK_16 K_16
          obtain ⟨o_19, hj_20, hb_13⟩ := bind_some hb_13
          refine AWp.seqI (fun i_43 : (Walk × Bool) => ⟨[(1, .d (.int .i64 from1)), (3, .ptr 1000 0 0), (5, .ptr 1001 0 0), (6, .ptr 1002 0 0), (8, .ptr 1003 0 0), (9, .ptr 1004 0 0), (10, .d (.int .i64 length1))], [(1000, ⟨77, 2, [.d (.agg [(.int .i64 m1.n), (.imm 4 (lenc Offer.pd m1.offers))])]⟩), (1001, ⟨3, 1, [.d (.int .i64 to1)]⟩), (1002, ⟨83, 4, [.d (.agg [.nilslice, (.int .i64 0), (.int .i64 0), (.int .i64 0)])]⟩), (1003, ⟨83, 4, [.d (.agg [(lstD 1 (lenc (PD.int .i64) i_43.1.list)), (.int .i64 i_43.1.rate.Num), (.int .i64 i_43.1.rate.Den), (.int .i64 i_43.1.to)])]⟩), (1004, ⟨4, 1, [.d (.bool i_43.2)]⟩)], [], none⟩) (fun i_43 => o_19 = i_43) ?_ ?_
          · refine AWp.block ?_
            refine AWp.seq fun K_21 hK_21 => AWp.reg ?_
            iterate 3 (refine AOps.consU fun K' hK' => ?_; simp (disch := omega) only [go_sem, reduceCtorEq, ↓reduceIte, Nat.reduceAdd, Nat.reduceMul, Nat.reduceLT, Nat.reduceLeDiff, Nat.reduceEqDiff, Nat.reduceBEq, Int.reduceToNat]; refine hK' _ ?_; clear hK' K')
            obtain ⟨hg_22, hj_20⟩ := guardO_some hj_20
            refine AOps.consU fun K' hK' => ?_; simp (disch := omega) only [go_sem, reduceCtorEq, ↓reduceIte, Nat.reduceAdd, Nat.reduceMul, Nat.reduceLT, Nat.reduceLeDiff, Nat.reduceEqDiff, Nat.reduceBEq, Int.reduceToNat]; refine OpT.call (by rfl) (by rfl) (by kernel_rfl) (walks_fn m1 from1 length1 false) (by exact ⟨rfl, rfl, rfl, rfl, trivial⟩) (by simp only [go_sem, reduceCtorEq, ↓reduceIte, Nat.reduceAdd, Nat.reduceMul, Nat.reduceLT, Nat.reduceLeDiff, Nat.reduceEqDiff, Nat.reduceBEq, Int.reduceToNat]) ?_ (by simp only [go_sem]); simp only [go_sem, reduceCtorEq, ↓reduceIte, Nat.reduceAdd, Nat.reduceMul, Nat.reduceLT, Nat.reduceLeDiff, Nat.reduceEqDiff, Nat.reduceBEq, Int.reduceToNat]; refine hK' _ ?_; clear hK' K'
            refine AOps.nil ?_
            simp only [Post.then]
            refine hK_21 _ ?_
            clear hK_21 K_21
            refine AWp.block ?_
            refine AWp.sub (τ := ⟨[(1, .d (.int .i64 from1)), (3, .ptr 1000 0 0), (5, .ptr 1001 0 0), (6, .ptr 1002 0 0), (8, .ptr 1003 0 0), (9, .ptr 1004 0 0), (10, .d (.int .i64 length1)), (27, .func (.func 93) [.dptr 2 [(.agg [(.int .i64 m1.n), (.imm 4 (lenc Offer.pd m1.offers))])] 0 0, .dptr 1 [.int .i64 length1] 0 0, .dptr 1 [.int .i64 from1] 0 0, .dptr 1 [.bool false] 0 0])], [(1000, ⟨77, 2, [.d (.agg [(.int .i64 m1.n), (.imm 4 (lenc Offer.pd m1.offers))])]⟩), (1001, ⟨3, 1, [.d (.int .i64 to1)]⟩), (1002, ⟨83, 4, [.d (.agg [.nilslice, (.int .i64 0), (.int .i64 0), (.int .i64 0)])]⟩), (1003, ⟨83, 4, [.d (.agg [(lstD 1 (lenc (PD.int .i64) c3.list)), (.int .i64 c3.rate.Num), (.int .i64 c3.rate.Den), (.int .i64 c3.to)])]⟩), (1004, ⟨4, 1, [.d (.bool c4)]⟩)], [], none⟩) (Sub.mk ⟨rfl, rfl, rfl, rfl, rfl, rfl, rfl, rfl, trivial⟩ ⟨rfl, rfl, rfl, rfl, rfl, trivial⟩ ⟨trivial, rfl, rfl, rfl, rfl, rfl, trivial, (by simp only [go_sem, reduceCtorEq, ↓reduceIte, Nat.reduceAdd, Nat.reduceMul, Nat.reduceLT, Nat.reduceLeDiff, Nat.reduceEqDiff, Nat.reduceBEq, Int.reduceToNat]), trivial⟩ ⟨⟨trivial, trivial⟩, ⟨trivial, trivial⟩, ⟨trivial, trivial⟩, ⟨trivial, trivial⟩, ⟨trivial, trivial⟩, trivial⟩ ⟨rfl, trivial, rfl⟩) ?_
            obtain ⟨o_36, hl_37, h2_38⟩ := bind_some hj_20
            refine AWp.rangeL Walk.pd (walksL m1 from1 length1 false) (fun i_41 : (Walk × Bool) => [(1000, ⟨77, 2, [.d (.agg [(.int .i64 m1.n), (.imm 4 (lenc Offer.pd m1.offers))])]⟩), (1001, ⟨3, 1, [.d (.int .i64 to1)]⟩), (1002, ⟨83, 4, [.d (.agg [.nilslice, (.int .i64 0), (.int .i64 0), (.int .i64 0)])]⟩), (1003, ⟨83, 4, [.d (.agg [(lstD 1 (lenc (PD.int .i64) i_41.1.list)), (.int .i64 i_41.1.rate.Num), (.int .i64 i_41.1.rate.Den), (.int .i64 i_41.1.to)])]⟩), (1004, ⟨4, 1, [.d (.bool i_41.2)]⟩)]) 0 (fun i_41 : (Walk × Bool) => [(1000, ⟨77, 2, [.d (.agg [(.int .i64 m1.n), (.imm 4 (lenc Offer.pd m1.offers))])]⟩), (1001, ⟨3, 1, [.d (.int .i64 to1)]⟩), (1002, ⟨83, 4, [.d (.agg [.nilslice, (.int .i64 0), (.int .i64 0), (.int .i64 0)])]⟩), (1003, ⟨83, 4, [.d (.agg [(lstD 1 (lenc (PD.int .i64) i_41.1.list)), (.int .i64 i_41.1.rate.Num), (.int .i64 i_41.1.rate.Den), (.int .i64 i_41.1.to)])]⟩), (1004, ⟨4, 1, [.d (.bool i_41.2)]⟩)]) (m_rate_market_best_r2 to1) (c3, c4) (by rfl) (by simp only [go_sem]) (by kernel_rfl) (walks_seq m1 from1 length1 false hg_22) rfl rfl (by rfl) (by decide) (by simp only [go_sem, clean, cleanL, dl_clean, reduceCtorEq, ↓reduceIte, Nat.reduceAdd, Nat.reduceMul, Nat.reduceLT, Nat.reduceLeDiff, Nat.reduceEqDiff, Nat.reduceBEq, Int.reduceToNat]) (fun _ => by simp only [go_sem, clean, cleanL, dl_clean, reduceCtorEq, ↓reduceIte, Nat.reduceAdd, Nat.reduceMul, Nat.reduceLT, Nat.reduceLeDiff, Nat.reduceEqDiff, Nat.reduceBEq, Int.reduceToNat]) (fun _ => by simp only [go_sem, clean, cleanL, dl_clean, reduceCtorEq, ↓reduceIte, Nat.reduceAdd, Nat.reduceMul, Nat.reduceLT, Nat.reduceLeDiff, Nat.reduceEqDiff, Nat.reduceBEq, Int.reduceToNat]) hl_37 ?_ ?_ ?_
            · rintro l_26 ⟨c7, c8⟩ x1 q_25 hraw_23
              have hb_24 := hraw_23
              unfold m_rate_market_best_r2 at hb_24
              try dsimp only at hb_24
              try dsimp only
              simp only [eput, ↓reduceIte, Nat.reduceEqDiff]
              refine AWp.reg ?_
              iterate 2 (refine AOps.consU fun K' hK' => ?_; simp (disch := omega) only [go_sem, reduceCtorEq, ↓reduceIte, Nat.reduceAdd, Nat.reduceMul, Nat.reduceLT, Nat.reduceLeDiff, Nat.reduceEqDiff, Nat.reduceBEq, Int.reduceToNat]; refine hK' _ ?_; clear hK' K')
              refine AOps.nil ?_
              simp only [Post.then, Post.inBlock, ↓reduceIte, Nat.reduceEqDiff]
              refine AWp.block ?_
              refine AWp.seq fun K_28 hK_28 => AWp.reg ?_
              iterate 5 (refine AOps.consU fun K' hK' => ?_; simp (disch := omega) only [go_sem, reduceCtorEq, ↓reduceIte, Nat.reduceAdd, Nat.reduceMul, Nat.reduceLT, Nat.reduceLeDiff, Nat.reduceEqDiff, Nat.reduceBEq, Int.reduceToNat]; refine hK' _ ?_; clear hK' K')
              obtain ⟨b1, hc_29, hb_24⟩ := bind_some hb_24
              refine AOps.cut 10 (⟨[(8, .ptr 1003 0 0), (9, .ptr 1004 0 0), (11, .ptr 1005 0 0), (43, .d (.bool b1))], [(1000, ⟨77, 2, [.d (.agg [(.int .i64 m1.n), (.imm 4 (lenc Offer.pd m1.offers))])]⟩), (1001, ⟨3, 1, [.d (.int .i64 to1)]⟩), (1002, ⟨83, 4, [.d (.agg [.nilslice, (.int .i64 0), (.int .i64 0), (.int .i64 0)])]⟩), (1003, ⟨83, 4, [.d (.agg [(lstD 1 (lenc (PD.int .i64) c7.list)), (.int .i64 c7.rate.Num), (.int .i64 c7.rate.Den), (.int .i64 c7.to)])]⟩), (1004, ⟨4, 1, [.d (.bool c8)]⟩), (1005, ⟨83, 4, [.d (.agg [(lstD 1 (lenc (PD.int .i64) x1.list)), (.int .i64 x1.rate.Num), (.int .i64 x1.rate.Den), (.int .i64 x1.to)])]⟩)], [.func (.func 0) (envL [(1, .d (.int .i64 from1)), (3, .ptr 1000 0 0), (5, .ptr 1001 0 0), (6, .ptr 1002 0 0), (8, .ptr 1003 0 0), (9, .ptr 1004 0 0), (10, .d (.int .i64 length1)), (27, .func (.func 93) [.dptr 2 [(.agg [(.int .i64 m1.n), (.imm 4 (lenc Offer.pd m1.offers))])] 0 0, .dptr 1 [.int .i64 length1] 0 0, .dptr 1 [.int .i64 from1] 0 0, .dptr 1 [.bool false] 0 0])])], none⟩) ?_ ?_
              · simp only [List.take_succ_cons, List.take_zero]
                rcases Bool.eq_false_or_eq_true (decide (x1.to = to1)) with hg_33 | hg_33
                · rw [hg_33]
                  rw [hg_33, cond_true] at hc_29
                  iterate 3 (refine AOps.consU fun K' hK' => ?_; simp (disch := omega) only [go_sem, reduceCtorEq, ↓reduceIte, Nat.reduceAdd, Nat.reduceMul, Nat.reduceLT, Nat.reduceLeDiff, Nat.reduceEqDiff, Nat.reduceBEq, Int.reduceToNat]; refine hK' _ ?_; clear hK' K')
                  obtain ⟨b2, hc_30, hc_29⟩ := bind_some hc_29
                  refine AOps.cut 6 (⟨[(8, .ptr 1003 0 0), (9, .ptr 1004 0 0), (11, .ptr 1005 0 0), (33, .d (.bool true)), (42, .d (.bool b2))], [(1000, ⟨77, 2, [.d (.agg [(.int .i64 m1.n), (.imm 4 (lenc Offer.pd m1.offers))])]⟩), (1001, ⟨3, 1, [.d (.int .i64 to1)]⟩), (1002, ⟨83, 4, [.d (.agg [.nilslice, (.int .i64 0), (.int .i64 0), (.int .i64 0)])]⟩), (1003, ⟨83, 4, [.d (.agg [(lstD 1 (lenc (PD.int .i64) c7.list)), (.int .i64 c7.rate.Num), (.int .i64 c7.rate.Den), (.int .i64 c7.to)])]⟩), (1004, ⟨4, 1, [.d (.bool c8)]⟩), (1005, ⟨83, 4, [.d (.agg [(lstD 1 (lenc (PD.int .i64) x1.list)), (.int .i64 x1.rate.Num), (.int .i64 x1.rate.Den), (.int .i64 x1.to)])]⟩)], [.func (.func 0) (envL [(1, .d (.int .i64 from1)), (3, .ptr 1000 0 0), (5, .ptr 1001 0 0), (6, .ptr 1002 0 0), (8, .ptr 1003 0 0), (9, .ptr 1004 0 0), (10, .d (.int .i64 length1)), (27, .func (.func 93) [.dptr 2 [(.agg [(.int .i64 m1.n), (.imm 4 (lenc Offer.pd m1.offers))])] 0 0, .dptr 1 [.int .i64 length1] 0 0, .dptr 1 [.int .i64 from1] 0 0, .dptr 1 [.bool false] 0 0])])], none⟩) ?_ ?_
                  · simp only [List.take_succ_cons, List.take_zero]
                    rcases Bool.eq_false_or_eq_true (!c8) with hg_32 | hg_32
                    · rw [hg_32]
                      rw [hg_32, cond_true] at hc_30
                      iterate 6 (refine AOps.consU fun K' hK' => ?_; simp (disch := omega) only [go_sem, reduceCtorEq, ↓reduceIte, Nat.reduceAdd, Nat.reduceMul, Nat.reduceLT, Nat.reduceLeDiff, Nat.reduceEqDiff, Nat.reduceBEq, Int.reduceToNat]; refine hK' _ ?_; clear hK' K')
                      refine AOps.nil ?_
                      have hc_30 := Option.some.inj hc_30
                      subst hc_30
                      exact (Sub.mk ⟨rfl, rfl, rfl, rfl, rfl, trivial⟩ ⟨rfl, rfl, rfl, rfl, rfl, rfl, trivial⟩ ⟨rfl, rfl, rfl, trivial, trivial, trivial⟩ ⟨⟨trivial, trivial⟩, ⟨trivial, trivial⟩, ⟨trivial, trivial⟩, ⟨trivial, trivial⟩, ⟨trivial, trivial⟩, ⟨trivial, trivial⟩, trivial⟩ ⟨rfl, (by simp only [go_sem, envL, envLGo, reduceCtorEq, ↓reduceIte, Nat.reduceAdd, Nat.reduceMul, Nat.reduceLT, Nat.reduceLeDiff, Nat.reduceEqDiff, Nat.reduceBEq, Int.reduceToNat]), rfl⟩)
                    · rw [hg_32]
                      rw [hg_32, cond_false] at hc_30
                      iterate 4 (refine AOps.consU fun K' hK' => ?_; simp (disch := omega) only [go_sem, reduceCtorEq, ↓reduceIte, Nat.reduceAdd, Nat.reduceMul, Nat.reduceLT, Nat.reduceLeDiff, Nat.reduceEqDiff, Nat.reduceBEq, Int.reduceToNat]; refine hK' _ ?_; clear hK' K')
                      obtain ⟨r1, hx_31, hc_30⟩ := bind_some hc_30
                      refine AOps.consU fun K' hK' => ?_; simp (disch := omega) only [go_sem, reduceCtorEq, ↓reduceIte, Nat.reduceAdd, Nat.reduceMul, Nat.reduceLT, Nat.reduceLeDiff, Nat.reduceEqDiff, Nat.reduceBEq, Int.reduceToNat]; refine OpT.call (by rfl) (by rfl) (by kernel_rfl) (m_rate_above_ok x1.rate c7.rate _ hx_31) (by exact ⟨rfl, rfl, trivial⟩) (by simp only [go_sem, reduceCtorEq, ↓reduceIte, Nat.reduceAdd, Nat.reduceMul, Nat.reduceLT, Nat.reduceLeDiff, Nat.reduceEqDiff, Nat.reduceBEq, Int.reduceToNat]) ?_ (by simp only [go_sem]); simp only [go_sem, reduceCtorEq, ↓reduceIte, Nat.reduceAdd, Nat.reduceMul, Nat.reduceLT, Nat.reduceLeDiff, Nat.reduceEqDiff, Nat.reduceBEq, Int.reduceToNat]; refine hK' _ ?_; clear hK' K'
                      iterate 1 (refine AOps.consU fun K' hK' => ?_; simp (disch := omega) only [go_sem, reduceCtorEq, ↓reduceIte, Nat.reduceAdd, Nat.reduceMul, Nat.reduceLT, Nat.reduceLeDiff, Nat.reduceEqDiff, Nat.reduceBEq, Int.reduceToNat]; refine hK' _ ?_; clear hK' K')
                      refine AOps.nil ?_
                      have hc_30 := Option.some.inj hc_30
                      subst hc_30
                      exact (Sub.mk ⟨rfl, rfl, rfl, rfl, rfl, trivial⟩ ⟨rfl, rfl, rfl, rfl, rfl, rfl, trivial⟩ ⟨rfl, rfl, rfl, trivial, trivial, trivial⟩ ⟨⟨trivial, trivial⟩, ⟨trivial, trivial⟩, ⟨trivial, trivial⟩, ⟨trivial, trivial⟩, ⟨trivial, trivial⟩, ⟨trivial, trivial⟩, trivial⟩ ⟨rfl, (by simp only [go_sem, envL, envLGo, reduceCtorEq, ↓reduceIte, Nat.reduceAdd, Nat.reduceMul, Nat.reduceLT, Nat.reduceLeDiff, Nat.reduceEqDiff, Nat.reduceBEq, Int.reduceToNat]), rfl⟩)
                  simp only [List.drop_succ_cons, List.drop_zero]
                  iterate 1 (refine AOps.consU fun K' hK' => ?_; simp (disch := omega) only [go_sem, reduceCtorEq, ↓reduceIte, Nat.reduceAdd, Nat.reduceMul, Nat.reduceLT, Nat.reduceLeDiff, Nat.reduceEqDiff, Nat.reduceBEq, Int.reduceToNat]; refine hK' _ ?_; clear hK' K')
                  refine AOps.nil ?_
                  have hc_29 := Option.some.inj hc_29
                  subst hc_29
                  exact (Sub.mk ⟨rfl, rfl, rfl, rfl, trivial⟩ ⟨rfl, rfl, rfl, rfl, rfl, rfl, trivial⟩ ⟨rfl, rfl, rfl, trivial, trivial⟩ ⟨⟨trivial, trivial⟩, ⟨trivial, trivial⟩, ⟨trivial, trivial⟩, ⟨trivial, trivial⟩, ⟨trivial, trivial⟩, ⟨trivial, trivial⟩, trivial⟩ ⟨rfl, (by simp only [go_sem, envL, envLGo, reduceCtorEq, ↓reduceIte, Nat.reduceAdd, Nat.reduceMul, Nat.reduceLT, Nat.reduceLeDiff, Nat.reduceEqDiff, Nat.reduceBEq, Int.reduceToNat]), rfl⟩)
                · rw [hg_33]
                  rw [hg_33, cond_false] at hc_29
                  iterate 10 (refine AOps.consU fun K' hK' => ?_; simp (disch := omega) only [go_sem, reduceCtorEq, ↓reduceIte, Nat.reduceAdd, Nat.reduceMul, Nat.reduceLT, Nat.reduceLeDiff, Nat.reduceEqDiff, Nat.reduceBEq, Int.reduceToNat]; refine hK' _ ?_; clear hK' K')
                  refine AOps.nil ?_
                  have hc_29 := Option.some.inj hc_29
                  subst hc_29
                  exact (Sub.mk ⟨rfl, rfl, rfl, rfl, trivial⟩ ⟨rfl, rfl, rfl, rfl, rfl, rfl, trivial⟩ ⟨rfl, rfl, rfl, trivial, trivial⟩ ⟨⟨trivial, trivial⟩, ⟨trivial, trivial⟩, ⟨trivial, trivial⟩, ⟨trivial, trivial⟩, ⟨trivial, trivial⟩, ⟨trivial, trivial⟩, trivial⟩ ⟨rfl, (by simp only [go_sem, envL, envLGo, reduceCtorEq, ↓reduceIte, Nat.reduceAdd, Nat.reduceMul, Nat.reduceLT, Nat.reduceLeDiff, Nat.reduceEqDiff, Nat.reduceBEq, Int.reduceToNat]), rfl⟩)
              simp only [List.drop_succ_cons, List.drop_zero]
              refine AOps.nil ?_
              simp only [Post.then]
              refine hK_28 _ ?_
              clear hK_28 K_28
              refine AWp.cond (b := b1) (by rfl) (fun hb_34 => ?_) (fun hb_34 => ?_)
              · rw [hb_34, cond_true] at hb_24
                refine AWp.reg ?_
                iterate 3 (refine AOps.consU fun K' hK' => ?_; simp (disch := omega) only [go_sem, reduceCtorEq, ↓reduceIte, Nat.reduceAdd, Nat.reduceMul, Nat.reduceLT, Nat.reduceLeDiff, Nat.reduceEqDiff, Nat.reduceBEq, Int.reduceToNat]; refine hK' _ ?_; clear hK' K')
                refine AOps.nil ?_
                simp only [Post.then, Post.inBlock, ↓reduceIte, Nat.reduceEqDiff]
                show ∃ s, _ = some (Sum.inl s) ∧ _
                exact ⟨(x1, true), hraw_23.trans hb_24.symm, (Sub.mk trivial ⟨rfl, rfl, rfl, rfl, rfl, trivial⟩ trivial ⟨⟨trivial, trivial⟩, ⟨trivial, trivial⟩, ⟨trivial, trivial⟩, ⟨trivial, trivial⟩, ⟨trivial, trivial⟩, trivial⟩ ⟨rfl, (by simp only [go_sem, envL, envLGo, reduceCtorEq, ↓reduceIte, Nat.reduceAdd, Nat.reduceMul, Nat.reduceLT, Nat.reduceLeDiff, Nat.reduceEqDiff, Nat.reduceBEq, Int.reduceToNat]), rfl⟩)⟩
              · rw [hb_34, cond_false] at hb_24
                refine AWp.skip ?_
                simp only [Post.then, Post.inBlock, ↓reduceIte, Nat.reduceEqDiff]
                show ∃ s, _ = some (Sum.inl s) ∧ _
                exact ⟨(c7, c8), hraw_23.trans hb_24.symm, (Sub.mk trivial ⟨rfl, rfl, rfl, rfl, rfl, trivial⟩ trivial ⟨⟨trivial, trivial⟩, ⟨trivial, trivial⟩, ⟨trivial, trivial⟩, ⟨trivial, trivial⟩, ⟨trivial, trivial⟩, trivial⟩ ⟨rfl, (by simp only [go_sem, envL, envLGo, reduceCtorEq, ↓reduceIte, Nat.reduceAdd, Nat.reduceMul, Nat.reduceLT, Nat.reduceLeDiff, Nat.reduceEqDiff, Nat.reduceBEq, Int.reduceToNat]), rfl⟩)⟩
            · rintro ⟨c7, c8⟩ hx_39
              rw [hx_39] at h2_38
              try dsimp only at h2_38
              try dsimp only
              simp only [Post.then, Post.inBlock, ↓reduceIte, Nat.reduceEqDiff]
              exact ⟨(c7, c8), (Option.some.inj h2_38).symm, (Sub.mk ⟨rfl, rfl, rfl, rfl, rfl, rfl, rfl, trivial⟩ ⟨rfl, rfl, rfl, rfl, rfl, trivial⟩ ⟨trivial, rfl, rfl, rfl, rfl, rfl, trivial, trivial⟩ ⟨⟨trivial, trivial⟩, ⟨trivial, trivial⟩, ⟨trivial, trivial⟩, ⟨trivial, trivial⟩, ⟨trivial, trivial⟩, trivial⟩ ⟨rfl, trivial, rfl⟩)⟩
            · rintro ⟨c71, c81⟩ hy_40
              rw [hy_40] at h2_38
              try dsimp only at h2_38
              try dsimp only
              simp only [Post.then, Post.inBlock, ↓reduceIte, Nat.reduceEqDiff]
              cases h2_38
          · rintro ⟨c5, c6⟩ hx_44
            rw [hx_44] at hb_13
            try dsimp only at hb_13
            try dsimp only
            refine AWp.reg ?_
            iterate 3 (refine AOps.consU fun K' hK' => ?_; simp (disch := omega) only [go_sem, reduceCtorEq, ↓reduceIte, Nat.reduceAdd, Nat.reduceMul, Nat.reduceLT, Nat.reduceLeDiff, Nat.reduceEqDiff, Nat.reduceBEq, Int.reduceToNat]; refine hK' _ ?_; clear hK' K')
            refine AOps.nil ?_
            simp only [Post.then, Post.inBlock, ↓reduceIte, Nat.reduceEqDiff]
            rw [← Option.some.inj hb_13] at hl_11
            try dsimp only at hl_11
            exact ⟨(n_10, ((IntKind.i64.wrap (length1 + 1)), c5, c6)), hl_11, Nat.lt_succ_self n_10, (Sub.mk ⟨rfl, rfl, rfl, rfl, rfl, rfl, rfl, trivial⟩ ⟨rfl, rfl, rfl, rfl, rfl, trivial⟩ ⟨trivial, rfl, rfl, rfl, rfl, rfl, trivial, trivial⟩ ⟨⟨trivial, trivial⟩, ⟨trivial, trivial⟩, ⟨trivial, trivial⟩, ⟨trivial, trivial⟩, ⟨trivial, trivial⟩, trivial⟩ ⟨rfl, trivial, rfl⟩)⟩
        · rw [hb_18, cond_false] at hb_13
          refine AWp.exit ?_
          simp only [Post.then, Post.inBlock, ↓reduceIte, Nat.reduceEqDiff]
          rw [← Option.some.inj hb_13] at hl_11
          try dsimp only at hl_11
          rw [← Option.some.inj hl_11] at h2_12
          try dsimp only at h2_12
          exact ⟨(c3, c4), (Option.some.inj h2_12).symm, (Sub.mk ⟨rfl, rfl, rfl, trivial⟩ ⟨rfl, rfl, rfl, trivial⟩ ⟨rfl, rfl, rfl, trivial⟩ ⟨⟨trivial, trivial⟩, ⟨trivial, trivial⟩, ⟨trivial, trivial⟩, trivial⟩ ⟨rfl, trivial, rfl⟩)⟩
    · rintro ⟨c1, c2⟩ hx_48
      rw [hx_48] at h
      try dsimp only at h
      try dsimp only
      refine AWp.seq fun K_46 hK_46 => AWp.draw mo [] (by trivial) ?_
      iterate 4 (refine DOps.consU fun K' hK' => ?_; simp (disch := omega) only [go_sem, reduceCtorEq, ↓reduceIte, Nat.reduceAdd, Nat.reduceMul, Nat.reduceLT, Nat.reduceLeDiff, Nat.reduceEqDiff, Nat.reduceBEq, Int.reduceToNat]; refine hK' _ _ ?_; clear hK' K'; simp only [List.nil_append, List.cons_append])
      refine DOps.nil (by kernel_rfl) ?_
      simp only [Post.then]
      refine hK_46 _ ?_
      clear hK_46 K_46
      refine AWp.ret ?_
      simp only [Post.then, Post.inBlock, Go.Pv.Fin, Go.Pv.FinG]
      rw [← Option.some.inj h]
      refine ⟨.tuple [.d (.agg [(lstD 1 (lenc (PD.int .i64) c1.list)), (.int .i64 c1.rate.Num), (.int .i64 c1.rate.Den), (.int .i64 c1.to)]), .d (.bool c2)], ?_, (by first | exact True.intro | rfl), .tuple [.d (.agg [(lstD 1 (lenc (PD.int .i64) c1.list)), (.int .i64 c1.rate.Num), (.int .i64 c1.rate.Den), (.int .i64 c1.to)]), .d (.bool c2)], ?_, ?_⟩
      · simp only [go_sem, Tryd.results55, List.length_append, List.length_set, List.length_replicate, reduceCtorEq, ↓reduceIte, Nat.reduceAdd, Nat.reduceMul, Nat.reduceLT, Nat.reduceLeDiff, Nat.reduceEqDiff, Nat.reduceBEq, Int.reduceToNat]
      · simp only [go_sem, lenc_nil, List.take_length, List.length_append, List.length_set, List.length_replicate, reduceCtorEq, ↓reduceIte, Nat.reduceAdd, Nat.reduceMul, Nat.reduceLT, Nat.reduceLeDiff, Nat.reduceEqDiff, Nat.reduceBEq, Int.reduceToNat]
      · (first | exact leV_refl _ | (simp only [go_sem, leV, leVL, leD, leDL, lenc_nil, leD_refl, leDL_refl, lstD_le, reduceCtorEq, ↓reduceIte, Nat.reduceAdd, Nat.reduceMul, Nat.reduceLT, Nat.reduceLeDiff, Nat.reduceEqDiff, Nat.reduceBEq, Int.reduceToNat]; done))

end Go.Pv.Tryd

namespace Go.Pv.Tryd
open Go.Proofs Go.Pv

theorem m_rate_Prices_ok (n1 : Int) (offers1 : (List Offer)) (r : ((List Ratio) × Int)) (h : m_rate_Prices n1 offers1 = some r) : PureFn Tryd.prog G 23 [.d (.int .i64 n1), .d (.imm 4 (lenc Offer.pd offers1))] (.tuple [.d (.imm 2 (lenc Ratio.pd r.1)), .d (.int .i64 r.2)]) := by
  unfold m_rate_Prices at h
  refine PureFn.intro2 Tryd.func23 (by rfl) (by rw [Tryd.ntmps23]; simp) ?_
  rw [Tryd.ntmps23]
  simp only [argEnv, reduceCtorEq, ↓reduceIte, Nat.reduceAdd, Nat.reduceMul, Nat.reduceLT, Nat.reduceLeDiff, Nat.reduceEqDiff, Nat.reduceBEq, Int.reduceToNat]
  refine AWp.seq fun K_1 hK_1 => AWp.reg ?_
  iterate 2 (refine AOps.consU fun K' hK' => ?_; simp (disch := omega) only [go_sem, reduceCtorEq, ↓reduceIte, Nat.reduceAdd, Nat.reduceMul, Nat.reduceLT, Nat.reduceLeDiff, Nat.reduceEqDiff, Nat.reduceBEq, Int.reduceToNat]; refine hK' _ ?_; clear hK' K')
  refine AOps.nil ?_
  simp only [Post.then]
  refine hK_1 _ ?_
  clear hK_1 K_1
  refine AWp.seq fun K_2 hK_2 => AWp.reg ?_
  iterate 2 (refine AOps.consU fun K' hK' => ?_; simp (disch := omega) only [go_sem, reduceCtorEq, ↓reduceIte, Nat.reduceAdd, Nat.reduceMul, Nat.reduceLT, Nat.reduceLeDiff, Nat.reduceEqDiff, Nat.reduceBEq, Int.reduceToNat]; refine hK' _ ?_; clear hK' K')
  obtain ⟨r1, hx_3, h⟩ := bind_some h
  refine AOps.consU fun K' hK' => ?_; simp (disch := omega) only [go_sem, reduceCtorEq, ↓reduceIte, Nat.reduceAdd, Nat.reduceMul, Nat.reduceLT, Nat.reduceLeDiff, Nat.reduceEqDiff, Nat.reduceBEq, Int.reduceToNat]; refine OpT.call (by rfl) (by rfl) (by kernel_rfl) (m_rate_of_ok n1 offers1 _ hx_3) (by exact ⟨rfl, rfl, trivial⟩) (by simp only [go_sem, reduceCtorEq, ↓reduceIte, Nat.reduceAdd, Nat.reduceMul, Nat.reduceLT, Nat.reduceLeDiff, Nat.reduceEqDiff, Nat.reduceBEq, Int.reduceToNat]) ?_ (by simp only [go_sem]); simp only [go_sem, reduceCtorEq, ↓reduceIte, Nat.reduceAdd, Nat.reduceMul, Nat.reduceLT, Nat.reduceLeDiff, Nat.reduceEqDiff, Nat.reduceBEq, Int.reduceToNat]; refine hK' _ ?_; clear hK' K'
  iterate 6 (refine AOps.consU fun K' hK' => ?_; simp (disch := omega) only [go_sem, reduceCtorEq, ↓reduceIte, Nat.reduceAdd, Nat.reduceMul, Nat.reduceLT, Nat.reduceLeDiff, Nat.reduceEqDiff, Nat.reduceBEq, Int.reduceToNat]; refine hK' _ ?_; clear hK' K')
  refine AOps.nil ?_
  simp only [Post.then]
  refine hK_2 _ ?_
  clear hK_2 K_2
  refine AWp.seq fun K_4 hK_4 => ?_
  refine AWp.seq fun K_5 hK_5 => AWp.reg ?_
  iterate 2 (refine AOps.consU fun K' hK' => ?_; simp (disch := omega) only [go_sem, reduceCtorEq, ↓reduceIte, Nat.reduceAdd, Nat.reduceMul, Nat.reduceLT, Nat.reduceLeDiff, Nat.reduceEqDiff, Nat.reduceBEq, Int.reduceToNat]; refine hK' _ ?_; clear hK' K')
  refine AOps.nil ?_
  simp only [Post.then]
  refine hK_5 _ ?_
  clear hK_5 K_5
  refine AWp.cond (b := (decide (¬r1.2 = 0))) (by rfl) (fun hb_6 => ?_) (fun hb_6 => ?_)
  · rw [hb_6, cond_true] at h
    refine AWp.seq fun K_7 hK_7 => AWp.reg ?_
    iterate 3 (refine AOps.consU fun K' hK' => ?_; simp (disch := omega) only [go_sem, reduceCtorEq, ↓reduceIte, Nat.reduceAdd, Nat.reduceMul, Nat.reduceLT, Nat.reduceLeDiff, Nat.reduceEqDiff, Nat.reduceBEq, Int.reduceToNat]; refine hK' _ ?_; clear hK' K')
    refine AOps.nil ?_
    simp only [Post.then]
    refine hK_7 _ ?_
    clear hK_7 K_7
    refine AWp.ret ?_
    simp only [Post.then, Post.inBlock, Go.Pv.Fin, Go.Pv.FinG]
    rw [← Option.some.inj h]
    refine ⟨.tuple [.d .nilslice, .d (.int .i64 r1.2)], ?_, (by first | exact True.intro | rfl), .tuple [.d .nilslice, .d (.int .i64 r1.2)], ?_, ?_⟩
    · simp only [go_sem, Tryd.results23, List.length_append, List.length_set, List.length_replicate, reduceCtorEq, ↓reduceIte, Nat.reduceAdd, Nat.reduceMul, Nat.reduceLT, Nat.reduceLeDiff, Nat.reduceEqDiff, Nat.reduceBEq, Int.reduceToNat]
    · simp only [go_sem, lenc_nil, List.take_length, List.length_append, List.length_set, List.length_replicate, reduceCtorEq, ↓reduceIte, Nat.reduceAdd, Nat.reduceMul, Nat.reduceLT, Nat.reduceLeDiff, Nat.reduceEqDiff, Nat.reduceBEq, Int.reduceToNat]
    · (first | exact leV_refl _ | (simp only [go_sem, leV, leVL, leD, leDL, lenc_nil, leD_refl, leDL_refl, lstD_le, reduceCtorEq, ↓reduceIte, Nat.reduceAdd, Nat.reduceMul, Nat.reduceLT, Nat.reduceLeDiff, Nat.reduceEqDiff, Nat.reduceBEq, Int.reduceToNat]; done))
  · rw [hb_6, cond_false] at h
    refine AWp.skip ?_
    simp only [Post.then, Post.inBlock, ↓reduceIte, Nat.reduceEqDiff]
    refine hK_4 _ ?_
    clear hK_4 K_4
    refine AWp.seq fun K_8 hK_8 => ?_
    refine AWp.seq fun K_9 hK_9 => AWp.reg ?_
    iterate 1 (refine AOps.consU fun K' hK' => ?_; simp (disch := omega) only [go_sem, reduceCtorEq, ↓reduceIte, Nat.reduceAdd, Nat.reduceMul, Nat.reduceLT, Nat.reduceLeDiff, Nat.reduceEqDiff, Nat.reduceBEq, Int.reduceToNat]; refine hK' _ ?_; clear hK' K')
    obtain ⟨r2, hx_10, h⟩ := bind_some h
    refine AOps.consU fun K' hK' => ?_; simp (disch := omega) only [go_sem, reduceCtorEq, ↓reduceIte, Nat.reduceAdd, Nat.reduceMul, Nat.reduceLT, Nat.reduceLeDiff, Nat.reduceEqDiff, Nat.reduceBEq, Int.reduceToNat]; refine OpT.call (by rfl) (by rfl) (by kernel_rfl) (m_rate_market_round_ok r1.1 _ hx_10) (by exact ⟨rfl, trivial⟩) (by simp only [go_sem, reduceCtorEq, ↓reduceIte, Nat.reduceAdd, Nat.reduceMul, Nat.reduceLT, Nat.reduceLeDiff, Nat.reduceEqDiff, Nat.reduceBEq, Int.reduceToNat]) ?_ (by simp only [go_sem]); simp only [go_sem, reduceCtorEq, ↓reduceIte, Nat.reduceAdd, Nat.reduceMul, Nat.reduceLT, Nat.reduceLeDiff, Nat.reduceEqDiff, Nat.reduceBEq, Int.reduceToNat]; refine hK' _ ?_; clear hK' K'
    iterate 1 (refine AOps.consU fun K' hK' => ?_; simp (disch := omega) only [go_sem, reduceCtorEq, ↓reduceIte, Nat.reduceAdd, Nat.reduceMul, Nat.reduceLT, Nat.reduceLeDiff, Nat.reduceEqDiff, Nat.reduceBEq, Int.reduceToNat]; refine hK' _ ?_; clear hK' K')
    refine AOps.nil ?_
    simp only [Post.then]
    refine hK_9 _ ?_
    clear hK_9 K_9
    refine AWp.cond (b := (!(r2).isEmpty)) (by rfl) (fun hb_11 => ?_) (fun hb_11 => ?_)
    · rw [hb_11, cond_true] at h
      refine AWp.seq fun K_12 hK_12 => AWp.reg ?_
      iterate 2 (refine AOps.consU fun K' hK' => ?_; simp (disch := omega) only [go_sem, reduceCtorEq, ↓reduceIte, Nat.reduceAdd, Nat.reduceMul, Nat.reduceLT, Nat.reduceLeDiff, Nat.reduceEqDiff, Nat.reduceBEq, Int.reduceToNat]; refine hK' _ ?_; clear hK' K')
      refine AOps.nil ?_
      simp only [Post.then]
      refine hK_12 _ ?_
      clear hK_12 K_12
      refine AWp.ret ?_
      simp only [Post.then, Post.inBlock, Go.Pv.Fin, Go.Pv.FinG]
      rw [← Option.some.inj h]
      refine ⟨.tuple [.d .nilslice, .d (.int .i64 10)], ?_, (by first | exact True.intro | rfl), .tuple [.d .nilslice, .d (.int .i64 10)], ?_, ?_⟩
      · simp only [go_sem, Tryd.results23, List.length_append, List.length_set, List.length_replicate, reduceCtorEq, ↓reduceIte, Nat.reduceAdd, Nat.reduceMul, Nat.reduceLT, Nat.reduceLeDiff, Nat.reduceEqDiff, Nat.reduceBEq, Int.reduceToNat]
      · simp only [go_sem, lenc_nil, List.take_length, List.length_append, List.length_set, List.length_replicate, reduceCtorEq, ↓reduceIte, Nat.reduceAdd, Nat.reduceMul, Nat.reduceLT, Nat.reduceLeDiff, Nat.reduceEqDiff, Nat.reduceBEq, Int.reduceToNat]
      · (first | exact leV_refl _ | (simp only [go_sem, leV, leVL, leD, leDL, lenc_nil, leD_refl, leDL_refl, lstD_le, reduceCtorEq, ↓reduceIte, Nat.reduceAdd, Nat.reduceMul, Nat.reduceLT, Nat.reduceLeDiff, Nat.reduceEqDiff, Nat.reduceBEq, Int.reduceToNat]; done))
    · rw [hb_11, cond_false] at h
      refine AWp.skip ?_
      simp only [Post.then, Post.inBlock, ↓reduceIte, Nat.reduceEqDiff]
      refine hK_8 _ ?_
      clear hK_8 K_8
      refine AWp.seq fun K_13 hK_13 => AWp.reg ?_
      iterate 1 (refine AOps.consU fun K' hK' => ?_; simp (disch := omega) only [go_sem, reduceCtorEq, ↓reduceIte, Nat.reduceAdd, Nat.reduceMul, Nat.reduceLT, Nat.reduceLeDiff, Nat.reduceEqDiff, Nat.reduceBEq, Int.reduceToNat]; refine hK' _ ?_; clear hK' K')
      refine AOps.nil ?_
      simp only [Post.then]
      refine hK_13 _ ?_
      clear hK_13 K_13
      refine AWp.sub (Sub.void 8 26 2 1001 (by rfl) (by rfl) (by decide) (by decide)) ?_
      simp only [eput, hput, reduceCtorEq, ↓reduceIte, Nat.reduceAdd, Nat.reduceMul, Nat.reduceLT, Nat.reduceLeDiff, Nat.reduceEqDiff, Nat.reduceBEq, Int.reduceToNat]
      obtain ⟨o_14, hj_15, h⟩ := bind_some h
      refine AWp.seqI (fun i_66 : (List Ratio) => ⟨[(8, .slc 1001 0 i_66.length)], [(1001, ⟨26, 2, dl (lenc Ratio.pd i_66)⟩)], [], none⟩) (fun i_66 => o_14 = i_66) ?_ ?_
      · refine AWp.seq fun K_16 hK_16 => AWp.reg ?_
        iterate 2 (refine AOps.consU fun K' hK' => ?_; simp (disch := omega) only [go_sem, reduceCtorEq, ↓reduceIte, Nat.reduceAdd, Nat.reduceMul, Nat.reduceLT, Nat.reduceLeDiff, Nat.reduceEqDiff, Nat.reduceBEq, Int.reduceToNat]; refine hK' _ ?_; clear hK' K')
        refine AOps.nil ?_
        simp only [Post.then]
        refine hK_16 _ ?_
        clear hK_16 K_16
        refine AWp.block ?_
        obtain ⟨x_21, hl_18, h2_19⟩ := bind_some hj_15
        obtain ⟨n_17, hl_18⟩ := iter_some hl_18
        refine AWp.loopI (fun i_64 : Nat × (Int × (List Ratio)) => ⟨[(0, .d (.int .i64 n1)), (6, .ptr 1000 0 0), (8, .slc 1001 0 i_64.2.2.length), (26, .d (.int .i64 n1)), (27, .d (.int .i64 i_64.2.1))], [(1000, ⟨77, 2, [.d (.agg [(.int .i64 r1.1.n), (.imm 4 (lenc Offer.pd r1.1.offers))])]⟩), (1001, ⟨26, 2, dl (lenc Ratio.pd i_64.2.2)⟩)], [], none⟩) (fun i_64 => iterN (m_rate_Prices_l1 n1 r1) i_64.1 i_64.2 = some x_21) (fun i_64 => i_64.1) (n_17, (0, [])) hl_18 (Sub.mk ⟨rfl, rfl, slcl (by simp only [List.length_append, List.length_set, List.length_replicate, List.length_cons, List.length_nil, Nat.zero_add]), rfl, rfl, trivial⟩ ⟨rfl, rfl, trivial⟩ ⟨trivial, rfl, rfl, trivial, trivial, trivial⟩ ⟨⟨trivial, trivial⟩, row_refs _ _, trivial⟩ ⟨rfl, trivial, rfl⟩) ?_
        clear hl_18
        rintro ⟨n_17, v1, L2⟩ hl_18
        try dsimp only at hl_18
        try dsimp only
        cases n_17 with
        | zero => cases hl_18
        | succ n_17 =>
          rw [iterN_succ] at hl_18
          obtain ⟨ob_22, hb_20, hl_18⟩ := bind_some hl_18
          unfold m_rate_Prices_l1 at hb_20
          try dsimp only at hb_20
          refine AWp.seq fun K_23 hK_23 => AWp.reg ?_
          iterate 1 (refine AOps.consU fun K' hK' => ?_; simp (disch := omega) only [go_sem, reduceCtorEq, ↓reduceIte, Nat.reduceAdd, Nat.reduceMul, Nat.reduceLT, Nat.reduceLeDiff, Nat.reduceEqDiff, Nat.reduceBEq, Int.reduceToNat]; refine hK' _ ?_; clear hK' K')
          refine AOps.nil ?_
          simp only [Post.then]
          refine hK_23 _ ?_
          clear hK_23 K_23
          refine AWp.seq fun K_24 hK_24 => ?_
          refine AWp.cond (b := (decide (v1 < n1))) (by rfl) (fun hb_25 => ?_) (fun hb_25 => ?_)
          · rw [hb_25, cond_true] at hb_20
            refine AWp.skip ?_
            simp only [Post.then, Post.inBlock, ↓reduceIte, Nat.reduceEqDiff]
            refine hK_24 _ ?_
            clear hK_24 K_24
            obtain ⟨o_26, hj_27, hb_20⟩ := bind_some hb_20
            refine AWp.seqI (fun i_62 : (List Ratio) => ⟨[(0, .d (.int .i64 n1)), (6, .ptr 1000 0 0), (8, .slc 1001 0 i_62.length), (26, .d (.int .i64 n1)), (27, .d (.int .i64 v1))], [(1000, ⟨77, 2, [.d (.agg [(.int .i64 r1.1.n), (.imm 4 (lenc Offer.pd r1.1.offers))])]⟩), (1001, ⟨26, 2, dl (lenc Ratio.pd i_62)⟩)], [], none⟩) (fun i_62 => o_26 = i_62) ?_ ?_
            · refine AWp.block ?_
              refine AWp.seq fun K_28 hK_28 => AWp.reg ?_
              iterate 2 (refine AOps.consU fun K' hK' => ?_; simp (disch := omega) only [go_sem, reduceCtorEq, ↓reduceIte, Nat.reduceAdd, Nat.reduceMul, Nat.reduceLT, Nat.reduceLeDiff, Nat.reduceEqDiff, Nat.reduceBEq, Int.reduceToNat]; refine hK' _ ?_; clear hK' K')
              refine AOps.nil ?_
              simp only [Post.then]
              refine hK_28 _ ?_
              clear hK_28 K_28
              refine AWp.seq fun K_29 hK_29 => AWp.reg ?_
              iterate 3 (refine AOps.consU fun K' hK' => ?_; simp (disch := omega) only [go_sem, reduceCtorEq, ↓reduceIte, Nat.reduceAdd, Nat.reduceMul, Nat.reduceLT, Nat.reduceLeDiff, Nat.reduceEqDiff, Nat.reduceBEq, Int.reduceToNat]; refine hK' _ ?_; clear hK' K')
              refine AOps.nil ?_
              simp only [Post.then]
              refine hK_29 _ ?_
              clear hK_29 K_29
              obtain ⟨o_30, hj_31, hj_27⟩ := bind_some hj_27
              refine AWp.seqI (fun i_59 : Ratio => ⟨[(0, .d (.int .i64 n1)), (6, .ptr 1000 0 0), (8, .slc 1001 0 L2.length), (10, .ptr 1002 0 0), (26, .d (.int .i64 n1)), (27, .d (.int .i64 v1))], [(1000, ⟨77, 2, [.d (.agg [(.int .i64 r1.1.n), (.imm 4 (lenc Offer.pd r1.1.offers))])]⟩), (1001, ⟨26, 2, dl (lenc Ratio.pd L2)⟩), (1002, ⟨26, 2, [.d (.agg [(.int .i64 i_59.Num), (.int .i64 i_59.Den)])]⟩)], [], none⟩) (fun i_59 => o_30 = i_59) ?_ ?_
              · refine AWp.seq fun K_32 hK_32 => AWp.reg ?_
                iterate 2 (refine AOps.consU fun K' hK' => ?_; simp (disch := omega) only [go_sem, reduceCtorEq, ↓reduceIte, Nat.reduceAdd, Nat.reduceMul, Nat.reduceLT, Nat.reduceLeDiff, Nat.reduceEqDiff, Nat.reduceBEq, Int.reduceToNat]; refine hK' _ ?_; clear hK' K')
                refine AOps.nil ?_
                simp only [Post.then]
                refine hK_32 _ ?_
                clear hK_32 K_32
                refine AWp.block ?_
                obtain ⟨x_37, hl_34, h2_35⟩ := bind_some hj_31
                obtain ⟨n_33, hl_34⟩ := iter_some hl_34
                refine AWp.loopI (fun i_56 : Nat × (Int × Ratio) => ⟨[(0, .d (.int .i64 n1)), (6, .ptr 1000 0 0), (8, .slc 1001 0 L2.length), (9, .d (.int .i64 v1)), (10, .ptr 1002 0 0), (26, .d (.int .i64 n1)), (27, .d (.int .i64 v1)), (31, .d (.int .i64 n1)), (32, .d (.int .i64 i_56.2.1))], [(1000, ⟨77, 2, [.d (.agg [(.int .i64 r1.1.n), (.imm 4 (lenc Offer.pd r1.1.offers))])]⟩), (1001, ⟨26, 2, dl (lenc Ratio.pd L2)⟩), (1002, ⟨26, 2, [.d (.agg [(.int .i64 i_56.2.2.Num), (.int .i64 i_56.2.2.Den)])]⟩)], [], none⟩) (fun i_56 => iterN (m_rate_Prices_l2 n1 r1 v1) i_56.1 i_56.2 = some x_37) (fun i_56 => i_56.1) (n_33, (0, (⟨1, 1⟩ : Ratio))) hl_34 (Sub.mk ⟨rfl, rfl, rfl, rfl, rfl, rfl, rfl, rfl, rfl, trivial⟩ ⟨rfl, rfl, rfl, trivial⟩ ⟨trivial, rfl, rfl, trivial, rfl, trivial, trivial, trivial, trivial, trivial⟩ ⟨⟨trivial, trivial⟩, row_refs _ _, ⟨trivial, trivial⟩, trivial⟩ ⟨rfl, trivial, rfl⟩) ?_
                clear hl_34
                rintro ⟨n_33, v2, c2⟩ hl_34
                try dsimp only at hl_34
                try dsimp only
                cases n_33 with
                | zero => cases hl_34
                | succ n_33 =>
                  rw [iterN_succ] at hl_34
                  obtain ⟨ob_38, hb_36, hl_34⟩ := bind_some hl_34
                  unfold m_rate_Prices_l2 at hb_36
                  try dsimp only at hb_36
                  refine AWp.seq fun K_39 hK_39 => AWp.reg ?_
                  iterate 1 (refine AOps.consU fun K' hK' => ?_; simp (disch := omega) only [go_sem, reduceCtorEq, ↓reduceIte, Nat.reduceAdd, Nat.reduceMul, Nat.reduceLT, Nat.reduceLeDiff, Nat.reduceEqDiff, Nat.reduceBEq, Int.reduceToNat]; refine hK' _ ?_; clear hK' K')
                  refine AOps.nil ?_
                  simp only [Post.then]
                  refine hK_39 _ ?_
                  clear hK_39 K_39
                  refine AWp.seq fun K_40 hK_40 => ?_
                  refine AWp.cond (b := (decide (v2 < n1))) (by rfl) (fun hb_41 => ?_) (fun hb_41 => ?_)
                  · rw [hb_41, cond_true] at hb_36
                    refine AWp.skip ?_
                    simp only [Post.then, Post.inBlock, ↓reduceIte, Nat.reduceEqDiff]
                    refine hK_40 _ ?_
                    clear hK_40 K_40
                    obtain ⟨o_42, hj_43, hb_36⟩ := bind_some hb_36
                    refine AWp.seqI (fun i_54 : Ratio => ⟨[(0, .d (.int .i64 n1)), (6, .ptr 1000 0 0), (8, .slc 1001 0 L2.length), (9, .d (.int .i64 v1)), (10, .ptr 1002 0 0), (26, .d (.int .i64 n1)), (27, .d (.int .i64 v1)), (31, .d (.int .i64 n1)), (32, .d (.int .i64 v2))], [(1000, ⟨77, 2, [.d (.agg [(.int .i64 r1.1.n), (.imm 4 (lenc Offer.pd r1.1.offers))])]⟩), (1001, ⟨26, 2, dl (lenc Ratio.pd L2)⟩), (1002, ⟨26, 2, [.d (.agg [(.int .i64 i_54.Num), (.int .i64 i_54.Den)])]⟩)], [], none⟩) (fun i_54 => o_42 = i_54) ?_ ?_
                    · refine AWp.block ?_
                      refine AWp.seq fun K_44 hK_44 => AWp.reg ?_
                      iterate 2 (refine AOps.consU fun K' hK' => ?_; simp (disch := omega) only [go_sem, reduceCtorEq, ↓reduceIte, Nat.reduceAdd, Nat.reduceMul, Nat.reduceLT, Nat.reduceLeDiff, Nat.reduceEqDiff, Nat.reduceBEq, Int.reduceToNat]; refine hK' _ ?_; clear hK' K')
                      refine AOps.nil ?_
                      simp only [Post.then]
                      refine hK_44 _ ?_
                      clear hK_44 K_44
                      refine AWp.seq fun K_45 hK_45 => AWp.reg ?_
                      iterate 3 (refine AOps.consU fun K' hK' => ?_; simp (disch := omega) only [go_sem, reduceCtorEq, ↓reduceIte, Nat.reduceAdd, Nat.reduceMul, Nat.reduceLT, Nat.reduceLeDiff, Nat.reduceEqDiff, Nat.reduceBEq, Int.reduceToNat]; refine hK' _ ?_; clear hK' K')
                      obtain ⟨r3, hx_46, hj_43⟩ := bind_some hj_43
                      refine AOps.consU fun K' hK' => ?_; simp (disch := omega) only [go_sem, reduceCtorEq, ↓reduceIte, Nat.reduceAdd, Nat.reduceMul, Nat.reduceLT, Nat.reduceLeDiff, Nat.reduceEqDiff, Nat.reduceBEq, Int.reduceToNat]; refine OpT.call (by rfl) (by rfl) (by kernel_rfl) (m_rate_market_best_ok r1.1 v1 v2 _ hx_46) (by exact ⟨rfl, rfl, rfl, trivial⟩) (by simp only [go_sem, reduceCtorEq, ↓reduceIte, Nat.reduceAdd, Nat.reduceMul, Nat.reduceLT, Nat.reduceLeDiff, Nat.reduceEqDiff, Nat.reduceBEq, Int.reduceToNat]) ?_ (by simp only [go_sem]); simp only [go_sem, reduceCtorEq, ↓reduceIte, Nat.reduceAdd, Nat.reduceMul, Nat.reduceLT, Nat.reduceLeDiff, Nat.reduceEqDiff, Nat.reduceBEq, Int.reduceToNat]; refine hK' _ ?_; clear hK' K'
                      iterate 6 (refine AOps.consU fun K' hK' => ?_; simp (disch := omega) only [go_sem, reduceCtorEq, ↓reduceIte, Nat.reduceAdd, Nat.reduceMul, Nat.reduceLT, Nat.reduceLeDiff, Nat.reduceEqDiff, Nat.reduceBEq, Int.reduceToNat]; refine hK' _ ?_; clear hK' K')
                      refine AOps.nil ?_
                      simp only [Post.then]
                      refine hK_45 _ ?_
                      clear hK_45 K_45
                      refine AWp.seq fun K_47 hK_47 => AWp.reg ?_
                      iterate 2 (refine AOps.consU fun K' hK' => ?_; simp (disch := omega) only [go_sem, reduceCtorEq, ↓reduceIte, Nat.reduceAdd, Nat.reduceMul, Nat.reduceLT, Nat.reduceLeDiff, Nat.reduceEqDiff, Nat.reduceBEq, Int.reduceToNat]; refine hK' _ ?_; clear hK' K')
                      obtain ⟨b1, hc_48, hj_43⟩ := bind_some hj_43
                      refine AOps.cut 5 (⟨[(0, .d (.int .i64 n1)), (6, .ptr 1000 0 0), (8, .slc 1001 0 L2.length), (9, .d (.int .i64 v1)), (10, .ptr 1002 0 0), (12, .ptr 1003 0 0), (26, .d (.int .i64 n1)), (27, .d (.int .i64 v1)), (31, .d (.int .i64 n1)), (32, .d (.int .i64 v2)), (48, .d (.bool b1))], [(1000, ⟨77, 2, [.d (.agg [(.int .i64 r1.1.n), (.imm 4 (lenc Offer.pd r1.1.offers))])]⟩), (1001, ⟨26, 2, dl (lenc Ratio.pd L2)⟩), (1002, ⟨26, 2, [.d (.agg [(.int .i64 c2.Num), (.int .i64 c2.Den)])]⟩), (1003, ⟨83, 4, [.d (.agg [(lstD 1 (lenc (PD.int .i64) r3.1.list)), (.int .i64 r3.1.rate.Num), (.int .i64 r3.1.rate.Den), (.int .i64 r3.1.to)])]⟩)], [], none⟩) ?_ ?_
                      · simp only [List.take_succ_cons, List.take_zero]
                        rcases Bool.eq_false_or_eq_true r3.2 with hg_50 | hg_50
                        · rw [hg_50]
                          rw [hg_50, cond_true] at hc_48
                          iterate 3 (refine AOps.consU fun K' hK' => ?_; simp (disch := omega) only [go_sem, reduceCtorEq, ↓reduceIte, Nat.reduceAdd, Nat.reduceMul, Nat.reduceLT, Nat.reduceLeDiff, Nat.reduceEqDiff, Nat.reduceBEq, Int.reduceToNat]; refine hK' _ ?_; clear hK' K')
                          obtain ⟨r4, hx_49, hc_48⟩ := bind_some hc_48
                          refine AOps.consU fun K' hK' => ?_; simp (disch := omega) only [go_sem, reduceCtorEq, ↓reduceIte, Nat.reduceAdd, Nat.reduceMul, Nat.reduceLT, Nat.reduceLeDiff, Nat.reduceEqDiff, Nat.reduceBEq, Int.reduceToNat]; refine OpT.call (by rfl) (by rfl) (by kernel_rfl) (m_rate_above_ok r3.1.rate c2 _ hx_49) (by exact ⟨rfl, rfl, trivial⟩) (by simp only [go_sem, reduceCtorEq, ↓reduceIte, Nat.reduceAdd, Nat.reduceMul, Nat.reduceLT, Nat.reduceLeDiff, Nat.reduceEqDiff, Nat.reduceBEq, Int.reduceToNat]) ?_ (by simp only [go_sem]); simp only [go_sem, reduceCtorEq, ↓reduceIte, Nat.reduceAdd, Nat.reduceMul, Nat.reduceLT, Nat.reduceLeDiff, Nat.reduceEqDiff, Nat.reduceBEq, Int.reduceToNat]; refine hK' _ ?_; clear hK' K'
                          iterate 1 (refine AOps.consU fun K' hK' => ?_; simp (disch := omega) only [go_sem, reduceCtorEq, ↓reduceIte, Nat.reduceAdd, Nat.reduceMul, Nat.reduceLT, Nat.reduceLeDiff, Nat.reduceEqDiff, Nat.reduceBEq, Int.reduceToNat]; refine hK' _ ?_; clear hK' K')
                          refine AOps.nil ?_
                          have hc_48 := Option.some.inj hc_48
                          subst hc_48
                          exact (Sub.mk ⟨rfl, rfl, rfl, rfl, rfl, rfl, rfl, rfl, rfl, rfl, rfl, trivial⟩ ⟨rfl, rfl, rfl, rfl, trivial⟩ ⟨trivial, rfl, rfl, trivial, rfl, rfl, trivial, trivial, trivial, trivial, trivial, trivial⟩ ⟨⟨trivial, trivial⟩, row_refs _ _, ⟨trivial, trivial⟩, ⟨trivial, trivial⟩, trivial⟩ ⟨rfl, trivial, rfl⟩)
                        · rw [hg_50]
                          rw [hg_50, cond_false] at hc_48
                          iterate 5 (refine AOps.consU fun K' hK' => ?_; simp (disch := omega) only [go_sem, reduceCtorEq, ↓reduceIte, Nat.reduceAdd, Nat.reduceMul, Nat.reduceLT, Nat.reduceLeDiff, Nat.reduceEqDiff, Nat.reduceBEq, Int.reduceToNat]; refine hK' _ ?_; clear hK' K')
                          refine AOps.nil ?_
                          have hc_48 := Option.some.inj hc_48
                          subst hc_48
                          exact (Sub.mk ⟨rfl, rfl, rfl, rfl, rfl, rfl, rfl, rfl, rfl, rfl, rfl, trivial⟩ ⟨rfl, rfl, rfl, rfl, trivial⟩ ⟨trivial, rfl, rfl, trivial, rfl, rfl, trivial, trivial, trivial, trivial, trivial, trivial⟩ ⟨⟨trivial, trivial⟩, row_refs _ _, ⟨trivial, trivial⟩, ⟨trivial, trivial⟩, trivial⟩ ⟨rfl, trivial, rfl⟩)
                      simp only [List.drop_succ_cons, List.drop_zero]
                      refine AOps.nil ?_
                      simp only [Post.then]
                      refine hK_47 _ ?_
                      clear hK_47 K_47
                      refine AWp.cond (b := b1) (by rfl) (fun hb_51 => ?_) (fun hb_51 => ?_)
                      · rw [hb_51, cond_true] at hj_43
                        refine AWp.reg ?_
                        iterate 3 (refine AOps.consU fun K' hK' => ?_; simp (disch := omega) only [go_sem, reduceCtorEq, ↓reduceIte, Nat.reduceAdd, Nat.reduceMul, Nat.reduceLT, Nat.reduceLeDiff, Nat.reduceEqDiff, Nat.reduceBEq, Int.reduceToNat]; refine hK' _ ?_; clear hK' K')
                        refine AOps.nil ?_
                        simp only [Post.then, Post.inBlock, ↓reduceIte, Nat.reduceEqDiff]
                        exact ⟨r3.1.rate, (Option.some.inj hj_43).symm, (Sub.mk ⟨rfl, rfl, rfl, rfl, rfl, rfl, rfl, rfl, rfl, trivial⟩ ⟨rfl, rfl, rfl, trivial⟩ ⟨trivial, rfl, rfl, trivial, rfl, trivial, trivial, trivial, trivial, trivial⟩ ⟨⟨trivial, trivial⟩, row_refs _ _, ⟨trivial, trivial⟩, trivial⟩ ⟨rfl, trivial, rfl⟩)⟩
                      · rw [hb_51, cond_false] at hj_43
                        refine AWp.skip ?_
                        simp only [Post.then, Post.inBlock, ↓reduceIte, Nat.reduceEqDiff]
                        exact ⟨c2, (Option.some.inj hj_43).symm, (Sub.mk ⟨rfl, rfl, rfl, rfl, rfl, rfl, rfl, rfl, rfl, trivial⟩ ⟨rfl, rfl, rfl, trivial⟩ ⟨trivial, rfl, rfl, trivial, rfl, trivial, trivial, trivial, trivial, trivial⟩ ⟨⟨trivial, trivial⟩, row_refs _ _, ⟨trivial, trivial⟩, trivial⟩ ⟨rfl, trivial, rfl⟩)⟩
                    · rintro c3 hx_55
                      rw [hx_55] at hb_36
                      try dsimp only at hb_36
                      try dsimp only
                      refine AWp.reg ?_
                      iterate 2 (refine AOps.consU fun K' hK' => ?_; simp (disch := omega) only [go_sem, reduceCtorEq, ↓reduceIte, Nat.reduceAdd, Nat.reduceMul, Nat.reduceLT, Nat.reduceLeDiff, Nat.reduceEqDiff, Nat.reduceBEq, Int.reduceToNat]; refine hK' _ ?_; clear hK' K')
                      refine AOps.nil ?_
                      simp only [Post.then, Post.inBlock, ↓reduceIte, Nat.reduceEqDiff]
                      rw [← Option.some.inj hb_36] at hl_34
                      try dsimp only at hl_34
                      exact ⟨(n_33, ((IntKind.i64.wrap (v2 + 1)), c3)), hl_34, Nat.lt_succ_self n_33, (Sub.mk ⟨rfl, rfl, rfl, rfl, rfl, rfl, rfl, rfl, rfl, trivial⟩ ⟨rfl, rfl, rfl, trivial⟩ ⟨trivial, rfl, rfl, trivial, rfl, trivial, trivial, trivial, trivial, trivial⟩ ⟨⟨trivial, trivial⟩, row_refs _ _, ⟨trivial, trivial⟩, trivial⟩ ⟨rfl, trivial, rfl⟩)⟩
                  · rw [hb_41, cond_false] at hb_36
                    refine AWp.exit ?_
                    simp only [Post.then, Post.inBlock, ↓reduceIte, Nat.reduceEqDiff]
                    rw [← Option.some.inj hb_36] at hl_34
                    try dsimp only at hl_34
                    rw [← Option.some.inj hl_34] at h2_35
                    try dsimp only at h2_35
                    exact ⟨c2, (Option.some.inj h2_35).symm, (Sub.mk ⟨rfl, rfl, rfl, rfl, rfl, rfl, trivial⟩ ⟨rfl, rfl, rfl, trivial⟩ ⟨trivial, rfl, rfl, rfl, trivial, trivial, trivial⟩ ⟨⟨trivial, trivial⟩, row_refs _ _, ⟨trivial, trivial⟩, trivial⟩ ⟨rfl, trivial, rfl⟩)⟩
              · rintro c1 hx_60
                rw [hx_60] at hj_27
                try dsimp only at hj_27
                try dsimp only
                refine AWp.reg ?_
                iterate 2 (refine AOps.consU fun K' hK' => ?_; simp (disch := omega) only [go_sem, reduceCtorEq, ↓reduceIte, Nat.reduceAdd, Nat.reduceMul, Nat.reduceLT, Nat.reduceLeDiff, Nat.reduceEqDiff, Nat.reduceBEq, Int.reduceToNat]; refine hK' _ ?_; clear hK' K')
                refine AOps.consL fun K' hK' => ?_; simp (disch := omega) only [go_sem, reduceCtorEq, ↓reduceIte, Nat.reduceAdd, Nat.reduceMul, Nat.reduceLT, Nat.reduceLeDiff, Nat.reduceEqDiff, Nat.reduceBEq, Int.reduceToNat]; refine hK' _ ?_; clear hK' K'
                obtain ⟨hg_58, hj_27⟩ := guardO_some hj_27
                iterate 2 (refine AOps.consU fun K' hK' => ?_; simp (disch := omega) only [go_sem, reduceCtorEq, ↓reduceIte, Nat.reduceAdd, Nat.reduceMul, Nat.reduceLT, Nat.reduceLeDiff, Nat.reduceEqDiff, Nat.reduceBEq, Int.reduceToNat]; refine hK' _ ?_; clear hK' K')
                refine AOps.nil ?_
                simp only [Post.then, Post.inBlock, ↓reduceIte, Nat.reduceEqDiff]
                exact ⟨(L2 ++ [c1]), (Option.some.inj hj_27).symm, (Sub.mk ⟨rfl, rfl, slcl (by simp only [List.length_append, List.length_set, List.length_replicate, List.length_cons, List.length_nil, Nat.zero_add]), rfl, rfl, trivial⟩ ⟨rfl, rfl, trivial⟩ ⟨trivial, rfl, rfl, trivial, trivial, trivial⟩ ⟨⟨trivial, trivial⟩, row_refs _ _, trivial⟩ ⟨rfl, trivial, rfl⟩)⟩
            · rintro L3 hx_63
              rw [hx_63] at hb_20
              try dsimp only at hb_20
              try dsimp only
              refine AWp.reg ?_
              iterate 2 (refine AOps.consU fun K' hK' => ?_; simp (disch := omega) only [go_sem, reduceCtorEq, ↓reduceIte, Nat.reduceAdd, Nat.reduceMul, Nat.reduceLT, Nat.reduceLeDiff, Nat.reduceEqDiff, Nat.reduceBEq, Int.reduceToNat]; refine hK' _ ?_; clear hK' K')
              refine AOps.nil ?_
              simp only [Post.then, Post.inBlock, ↓reduceIte, Nat.reduceEqDiff]
              rw [← Option.some.inj hb_20] at hl_18
              try dsimp only at hl_18
              exact ⟨(n_17, ((IntKind.i64.wrap (v1 + 1)), L3)), hl_18, Nat.lt_succ_self n_17, (Sub.mk ⟨rfl, rfl, slcl (by simp only [List.length_append, List.length_set, List.length_replicate, List.length_cons, List.length_nil, Nat.zero_add]), rfl, rfl, trivial⟩ ⟨rfl, rfl, trivial⟩ ⟨trivial, rfl, rfl, trivial, trivial, trivial⟩ ⟨⟨trivial, trivial⟩, row_refs _ _, trivial⟩ ⟨rfl, trivial, rfl⟩)⟩
          · rw [hb_25, cond_false] at hb_20
            refine AWp.exit ?_
            simp only [Post.then, Post.inBlock, ↓reduceIte, Nat.reduceEqDiff]
            rw [← Option.some.inj hb_20] at hl_18
            try dsimp only at hl_18
            rw [← Option.some.inj hl_18] at h2_19
            try dsimp only at h2_19
            exact ⟨L2, (Option.some.inj h2_19).symm, (Sub.mk ⟨slcl (by simp only [List.length_append, List.length_set, List.length_replicate, List.length_cons, List.length_nil, Nat.zero_add]), trivial⟩ ⟨rfl, trivial⟩ ⟨rfl, trivial⟩ ⟨row_refs _ _, trivial⟩ ⟨rfl, trivial, rfl⟩)⟩
      · rintro L1 hx_67
        rw [hx_67] at h
        try dsimp only at h
        try dsimp only
        refine AWp.seq fun K_65 hK_65 => AWp.reg ?_
        iterate 3 (refine AOps.consU fun K' hK' => ?_; simp (disch := omega) only [go_sem, reduceCtorEq, ↓reduceIte, Nat.reduceAdd, Nat.reduceMul, Nat.reduceLT, Nat.reduceLeDiff, Nat.reduceEqDiff, Nat.reduceBEq, Int.reduceToNat]; refine hK' _ ?_; clear hK' K')
        refine AOps.nil ?_
        simp only [Post.then]
        refine hK_65 _ ?_
        clear hK_65 K_65
        refine AWp.ret ?_
        simp only [Post.then, Post.inBlock, Go.Pv.Fin, Go.Pv.FinG]
        rw [← Option.some.inj h]
        refine ⟨.tuple [.slc 1001 0 L1.length, .d (.int .i64 0)], ?_, (by first | exact True.intro | rfl), .tuple [.d (.imm 2 (lenc Ratio.pd L1)), .d (.int .i64 0)], ?_, ?_⟩
        · simp only [go_sem, Tryd.results23, List.length_append, List.length_set, List.length_replicate, reduceCtorEq, ↓reduceIte, Nat.reduceAdd, Nat.reduceMul, Nat.reduceLT, Nat.reduceLeDiff, Nat.reduceEqDiff, Nat.reduceBEq, Int.reduceToNat]
        · simp only [go_sem, lenc_nil, List.take_length, List.length_append, List.length_set, List.length_replicate, reduceCtorEq, ↓reduceIte, Nat.reduceAdd, Nat.reduceMul, Nat.reduceLT, Nat.reduceLeDiff, Nat.reduceEqDiff, Nat.reduceBEq, Int.reduceToNat]
        · (first | exact leV_refl _ | (simp only [go_sem, leV, leVL, leD, leDL, lenc_nil, leD_refl, leDL_refl, lstD_le, reduceCtorEq, ↓reduceIte, Nat.reduceAdd, Nat.reduceMul, Nat.reduceLT, Nat.reduceLeDiff, Nat.reduceEqDiff, Nat.reduceBEq, Int.reduceToNat]; done))

end Go.Pv.Tryd

namespace Go.Pv.Tryd
open Go.Proofs Go.Pv

theorem m_rate_Best_ok (n1 : Int) (offers1 : (List Offer)) (from1 : Int) (to1 : Int) (r : (Ratio × (List Int) × Int)) (h : m_rate_Best n1 offers1 from1 to1 = some r) : PureFn Tryd.prog G 20 [.d (.int .i64 n1), .d (.imm 4 (lenc Offer.pd offers1)), .d (.int .i64 from1), .d (.int .i64 to1)] (.tuple [.d (.agg [(.int .i64 r.1.Num), (.int .i64 r.1.Den)]), .d (.imm 1 (lenc (PD.int .i64) r.2.1)), .d (.int .i64 r.2.2)]) := by
  unfold m_rate_Best at h
  refine PureFn.intro2 Tryd.func20 (by rfl) (by rw [Tryd.ntmps20]; simp) ?_
  rw [Tryd.ntmps20]
  simp only [argEnv, reduceCtorEq, ↓reduceIte, Nat.reduceAdd, Nat.reduceMul, Nat.reduceLT, Nat.reduceLeDiff, Nat.reduceEqDiff, Nat.reduceBEq, Int.reduceToNat]
  refine AWp.seq fun K_1 hK_1 => AWp.reg ?_
  iterate 3 (refine AOps.consU fun K' hK' => ?_; simp (disch := omega) only [go_sem, reduceCtorEq, ↓reduceIte, Nat.reduceAdd, Nat.reduceMul, Nat.reduceLT, Nat.reduceLeDiff, Nat.reduceEqDiff, Nat.reduceBEq, Int.reduceToNat]; refine hK' _ ?_; clear hK' K')
  refine AOps.nil ?_
  simp only [Post.then]
  refine hK_1 _ ?_
  clear hK_1 K_1
  refine AWp.seq fun K_2 hK_2 => AWp.reg ?_
  iterate 2 (refine AOps.consU fun K' hK' => ?_; simp (disch := omega) only [go_sem, reduceCtorEq, ↓reduceIte, Nat.reduceAdd, Nat.reduceMul, Nat.reduceLT, Nat.reduceLeDiff, Nat.reduceEqDiff, Nat.reduceBEq, Int.reduceToNat]; refine hK' _ ?_; clear hK' K')
  obtain ⟨r1, hx_3, h⟩ := bind_some h
  refine AOps.consU fun K' hK' => ?_; simp (disch := omega) only [go_sem, reduceCtorEq, ↓reduceIte, Nat.reduceAdd, Nat.reduceMul, Nat.reduceLT, Nat.reduceLeDiff, Nat.reduceEqDiff, Nat.reduceBEq, Int.reduceToNat]; refine OpT.call (by rfl) (by rfl) (by kernel_rfl) (m_rate_of_ok n1 offers1 _ hx_3) (by exact ⟨rfl, rfl, trivial⟩) (by simp only [go_sem, reduceCtorEq, ↓reduceIte, Nat.reduceAdd, Nat.reduceMul, Nat.reduceLT, Nat.reduceLeDiff, Nat.reduceEqDiff, Nat.reduceBEq, Int.reduceToNat]) ?_ (by simp only [go_sem]); simp only [go_sem, reduceCtorEq, ↓reduceIte, Nat.reduceAdd, Nat.reduceMul, Nat.reduceLT, Nat.reduceLeDiff, Nat.reduceEqDiff, Nat.reduceBEq, Int.reduceToNat]; refine hK' _ ?_; clear hK' K'
  iterate 6 (refine AOps.consU fun K' hK' => ?_; simp (disch := omega) only [go_sem, reduceCtorEq, ↓reduceIte, Nat.reduceAdd, Nat.reduceMul, Nat.reduceLT, Nat.reduceLeDiff, Nat.reduceEqDiff, Nat.reduceBEq, Int.reduceToNat]; refine hK' _ ?_; clear hK' K')
  refine AOps.nil ?_
  simp only [Post.then]
  refine hK_2 _ ?_
  clear hK_2 K_2
  refine AWp.seq fun K_4 hK_4 => ?_
  refine AWp.block ?_
  refine AWp.seq fun K_5 hK_5 => AWp.reg ?_
  iterate 3 (refine AOps.consU fun K' hK' => ?_; simp (disch := omega) only [go_sem, reduceCtorEq, ↓reduceIte, Nat.reduceAdd, Nat.reduceMul, Nat.reduceLT, Nat.reduceLeDiff, Nat.reduceEqDiff, Nat.reduceBEq, Int.reduceToNat]; refine hK' _ ?_; clear hK' K')
  refine AOps.nil ?_
  simp only [Post.then]
  refine hK_5 _ ?_
  clear hK_5 K_5
  refine AWp.cond (b := (decide (¬r1.2 = 0))) (by rfl) (fun hb_6 => ?_) (fun hb_6 => ?_)
  · rw [hb_6, cond_true] at h
    refine AWp.seq fun K_7 hK_7 => AWp.reg ?_
    iterate 5 (refine AOps.consU fun K' hK' => ?_; simp (disch := omega) only [go_sem, reduceCtorEq, ↓reduceIte, Nat.reduceAdd, Nat.reduceMul, Nat.reduceLT, Nat.reduceLeDiff, Nat.reduceEqDiff, Nat.reduceBEq, Int.reduceToNat]; refine hK' _ ?_; clear hK' K')
    refine AOps.nil ?_
    simp only [Post.then]
    refine hK_7 _ ?_
    clear hK_7 K_7
    refine AWp.ret ?_
    simp only [Post.then, Post.inBlock, Go.Pv.Fin, Go.Pv.FinG]
    rw [← Option.some.inj h]
    refine ⟨.tuple [.d (.agg [(.int .i64 0), (.int .i64 0)]), .d .nilslice, .d (.int .i64 r1.2)], ?_, (by first | exact True.intro | rfl), .tuple [.d (.agg [(.int .i64 0), (.int .i64 0)]), .d .nilslice, .d (.int .i64 r1.2)], ?_, ?_⟩
    · simp only [go_sem, Tryd.results20, List.length_append, List.length_set, List.length_replicate, reduceCtorEq, ↓reduceIte, Nat.reduceAdd, Nat.reduceMul, Nat.reduceLT, Nat.reduceLeDiff, Nat.reduceEqDiff, Nat.reduceBEq, Int.reduceToNat]
    · simp only [go_sem, lenc_nil, List.take_length, List.length_append, List.length_set, List.length_replicate, reduceCtorEq, ↓reduceIte, Nat.reduceAdd, Nat.reduceMul, Nat.reduceLT, Nat.reduceLeDiff, Nat.reduceEqDiff, Nat.reduceBEq, Int.reduceToNat]
    · (first | exact leV_refl _ | (simp only [go_sem, leV, leVL, leD, leDL, lenc_nil, leD_refl, leDL_refl, lstD_le, reduceCtorEq, ↓reduceIte, Nat.reduceAdd, Nat.reduceMul, Nat.reduceLT, Nat.reduceLeDiff, Nat.reduceEqDiff, Nat.reduceBEq, Int.reduceToNat]; done))
  · rw [hb_6, cond_false] at h
    refine AWp.seq fun K_8 hK_8 => AWp.reg ?_
    iterate 2 (refine AOps.consU fun K' hK' => ?_; simp (disch := omega) only [go_sem, reduceCtorEq, ↓reduceIte, Nat.reduceAdd, Nat.reduceMul, Nat.reduceLT, Nat.reduceLeDiff, Nat.reduceEqDiff, Nat.reduceBEq, Int.reduceToNat]; refine hK' _ ?_; clear hK' K')
    obtain ⟨r2, hx_9, h⟩ := bind_some h
    refine AOps.consU fun K' hK' => ?_; simp (disch := omega) only [go_sem, reduceCtorEq, ↓reduceIte, Nat.reduceAdd, Nat.reduceMul, Nat.reduceLT, Nat.reduceLeDiff, Nat.reduceEqDiff, Nat.reduceBEq, Int.reduceToNat]; refine OpT.call (by rfl) (by rfl) (by kernel_rfl) (m_rate_market_has_ok r1.1 from1 _ hx_9) (by exact ⟨rfl, rfl, trivial⟩) (by simp only [go_sem, reduceCtorEq, ↓reduceIte, Nat.reduceAdd, Nat.reduceMul, Nat.reduceLT, Nat.reduceLeDiff, Nat.reduceEqDiff, Nat.reduceBEq, Int.reduceToNat]) ?_ (by simp only [go_sem]); simp only [go_sem, reduceCtorEq, ↓reduceIte, Nat.reduceAdd, Nat.reduceMul, Nat.reduceLT, Nat.reduceLeDiff, Nat.reduceEqDiff, Nat.reduceBEq, Int.reduceToNat]; refine hK' _ ?_; clear hK' K'
    iterate 2 (refine AOps.consU fun K' hK' => ?_; simp (disch := omega) only [go_sem, reduceCtorEq, ↓reduceIte, Nat.reduceAdd, Nat.reduceMul, Nat.reduceLT, Nat.reduceLeDiff, Nat.reduceEqDiff, Nat.reduceBEq, Int.reduceToNat]; refine hK' _ ?_; clear hK' K')
    obtain ⟨b1, hc_10, h⟩ := bind_some h
    refine AOps.cut 5 (⟨[(2, .d (.int .i64 from1)), (3, .d (.int .i64 to1)), (8, .ptr 1000 0 0), (11, .ptr 1001 0 0), (36, .d (.bool b1))], [(1000, ⟨26, 2, [.d (.agg [(.int .i64 0), (.int .i64 0)])]⟩), (1001, ⟨77, 2, [.d (.agg [(.int .i64 r1.1.n), (.imm 4 (lenc Offer.pd r1.1.offers))])]⟩)], [], none⟩) ?_ ?_
    · simp only [List.take_succ_cons, List.take_zero]
      rcases Bool.eq_false_or_eq_true (!r2) with hg_12 | hg_12
      · rw [hg_12]
        rw [hg_12, cond_true] at hc_10
        iterate 5 (refine AOps.consU fun K' hK' => ?_; simp (disch := omega) only [go_sem, reduceCtorEq, ↓reduceIte, Nat.reduceAdd, Nat.reduceMul, Nat.reduceLT, Nat.reduceLeDiff, Nat.reduceEqDiff, Nat.reduceBEq, Int.reduceToNat]; refine hK' _ ?_; clear hK' K')
        refine AOps.nil ?_
        have hc_10 := Option.some.inj hc_10
        subst hc_10
        exact (Sub.mk ⟨rfl, rfl, rfl, rfl, rfl, trivial⟩ ⟨rfl, rfl, trivial⟩ ⟨trivial, trivial, rfl, rfl, trivial, trivial⟩ ⟨⟨trivial, trivial⟩, ⟨trivial, trivial⟩, trivial⟩ ⟨rfl, trivial, rfl⟩)
      · rw [hg_12]
        rw [hg_12, cond_false] at hc_10
        iterate 2 (refine AOps.consU fun K' hK' => ?_; simp (disch := omega) only [go_sem, reduceCtorEq, ↓reduceIte, Nat.reduceAdd, Nat.reduceMul, Nat.reduceLT, Nat.reduceLeDiff, Nat.reduceEqDiff, Nat.reduceBEq, Int.reduceToNat]; refine hK' _ ?_; clear hK' K')
        obtain ⟨r3, hx_11, hc_10⟩ := bind_some hc_10
        refine AOps.consU fun K' hK' => ?_; simp (disch := omega) only [go_sem, reduceCtorEq, ↓reduceIte, Nat.reduceAdd, Nat.reduceMul, Nat.reduceLT, Nat.reduceLeDiff, Nat.reduceEqDiff, Nat.reduceBEq, Int.reduceToNat]; refine OpT.call (by rfl) (by rfl) (by kernel_rfl) (m_rate_market_has_ok r1.1 to1 _ hx_11) (by exact ⟨rfl, rfl, trivial⟩) (by simp only [go_sem, reduceCtorEq, ↓reduceIte, Nat.reduceAdd, Nat.reduceMul, Nat.reduceLT, Nat.reduceLeDiff, Nat.reduceEqDiff, Nat.reduceBEq, Int.reduceToNat]) ?_ (by simp only [go_sem]); simp only [go_sem, reduceCtorEq, ↓reduceIte, Nat.reduceAdd, Nat.reduceMul, Nat.reduceLT, Nat.reduceLeDiff, Nat.reduceEqDiff, Nat.reduceBEq, Int.reduceToNat]; refine hK' _ ?_; clear hK' K'
        iterate 2 (refine AOps.consU fun K' hK' => ?_; simp (disch := omega) only [go_sem, reduceCtorEq, ↓reduceIte, Nat.reduceAdd, Nat.reduceMul, Nat.reduceLT, Nat.reduceLeDiff, Nat.reduceEqDiff, Nat.reduceBEq, Int.reduceToNat]; refine hK' _ ?_; clear hK' K')
        refine AOps.nil ?_
        have hc_10 := Option.some.inj hc_10
        subst hc_10
        exact (Sub.mk ⟨rfl, rfl, rfl, rfl, rfl, trivial⟩ ⟨rfl, rfl, trivial⟩ ⟨trivial, trivial, rfl, rfl, trivial, trivial⟩ ⟨⟨trivial, trivial⟩, ⟨trivial, trivial⟩, trivial⟩ ⟨rfl, trivial, rfl⟩)
    simp only [List.drop_succ_cons, List.drop_zero]
    iterate 1 (refine AOps.consU fun K' hK' => ?_; simp (disch := omega) only [go_sem, reduceCtorEq, ↓reduceIte, Nat.reduceAdd, Nat.reduceMul, Nat.reduceLT, Nat.reduceLeDiff, Nat.reduceEqDiff, Nat.reduceBEq, Int.reduceToNat]; refine hK' _ ?_; clear hK' K')
    refine AOps.nil ?_
    simp only [Post.then]
    refine hK_8 _ ?_
    clear hK_8 K_8
    refine AWp.cond (b := b1) (by rfl) (fun hb_13 => ?_) (fun hb_13 => ?_)
    · rw [hb_13, cond_true] at h
      refine AWp.seq fun K_14 hK_14 => AWp.reg ?_
      iterate 4 (refine AOps.consU fun K' hK' => ?_; simp (disch := omega) only [go_sem, reduceCtorEq, ↓reduceIte, Nat.reduceAdd, Nat.reduceMul, Nat.reduceLT, Nat.reduceLeDiff, Nat.reduceEqDiff, Nat.reduceBEq, Int.reduceToNat]; refine hK' _ ?_; clear hK' K')
      refine AOps.nil ?_
      simp only [Post.then]
      refine hK_14 _ ?_
      clear hK_14 K_14
      refine AWp.ret ?_
      simp only [Post.then, Post.inBlock, Go.Pv.Fin, Go.Pv.FinG]
      rw [← Option.some.inj h]
      refine ⟨.tuple [.d (.agg [(.int .i64 0), (.int .i64 0)]), .d .nilslice, .d (.int .i64 2)], ?_, (by first | exact True.intro | rfl), .tuple [.d (.agg [(.int .i64 0), (.int .i64 0)]), .d .nilslice, .d (.int .i64 2)], ?_, ?_⟩
      · simp only [go_sem, Tryd.results20, List.length_append, List.length_set, List.length_replicate, reduceCtorEq, ↓reduceIte, Nat.reduceAdd, Nat.reduceMul, Nat.reduceLT, Nat.reduceLeDiff, Nat.reduceEqDiff, Nat.reduceBEq, Int.reduceToNat]
      · simp only [go_sem, lenc_nil, List.take_length, List.length_append, List.length_set, List.length_replicate, reduceCtorEq, ↓reduceIte, Nat.reduceAdd, Nat.reduceMul, Nat.reduceLT, Nat.reduceLeDiff, Nat.reduceEqDiff, Nat.reduceBEq, Int.reduceToNat]
      · (first | exact leV_refl _ | (simp only [go_sem, leV, leVL, leD, leDL, lenc_nil, leD_refl, leDL_refl, lstD_le, reduceCtorEq, ↓reduceIte, Nat.reduceAdd, Nat.reduceMul, Nat.reduceLT, Nat.reduceLeDiff, Nat.reduceEqDiff, Nat.reduceBEq, Int.reduceToNat]; done))
    · rw [hb_13, cond_false] at h
      refine AWp.seq fun K_15 hK_15 => AWp.reg ?_
      iterate 1 (refine AOps.consU fun K' hK' => ?_; simp (disch := omega) only [go_sem, reduceCtorEq, ↓reduceIte, Nat.reduceAdd, Nat.reduceMul, Nat.reduceLT, Nat.reduceLeDiff, Nat.reduceEqDiff, Nat.reduceBEq, Int.reduceToNat]; refine hK' _ ?_; clear hK' K')
      obtain ⟨r4, hx_16, h⟩ := bind_some h
      refine AOps.consU fun K' hK' => ?_; simp (disch := omega) only [go_sem, reduceCtorEq, ↓reduceIte, Nat.reduceAdd, Nat.reduceMul, Nat.reduceLT, Nat.reduceLeDiff, Nat.reduceEqDiff, Nat.reduceBEq, Int.reduceToNat]; refine OpT.call (by rfl) (by rfl) (by kernel_rfl) (m_rate_market_round_ok r1.1 _ hx_16) (by exact ⟨rfl, trivial⟩) (by simp only [go_sem, reduceCtorEq, ↓reduceIte, Nat.reduceAdd, Nat.reduceMul, Nat.reduceLT, Nat.reduceLeDiff, Nat.reduceEqDiff, Nat.reduceBEq, Int.reduceToNat]) ?_ (by simp only [go_sem]); simp only [go_sem, reduceCtorEq, ↓reduceIte, Nat.reduceAdd, Nat.reduceMul, Nat.reduceLT, Nat.reduceLeDiff, Nat.reduceEqDiff, Nat.reduceBEq, Int.reduceToNat]; refine hK' _ ?_; clear hK' K'
      iterate 2 (refine AOps.consU fun K' hK' => ?_; simp (disch := omega) only [go_sem, reduceCtorEq, ↓reduceIte, Nat.reduceAdd, Nat.reduceMul, Nat.reduceLT, Nat.reduceLeDiff, Nat.reduceEqDiff, Nat.reduceBEq, Int.reduceToNat]; refine hK' _ ?_; clear hK' K')
      refine AOps.nil ?_
      simp only [Post.then]
      refine hK_15 _ ?_
      clear hK_15 K_15
      refine AWp.cond (b := (!(r4).isEmpty)) (by rfl) (fun hb_17 => ?_) (fun hb_17 => ?_)
      · rw [hb_17, cond_true] at h
        refine AWp.seq fun K_18 hK_18 => AWp.reg ?_
        iterate 4 (refine AOps.consU fun K' hK' => ?_; simp (disch := omega) only [go_sem, reduceCtorEq, ↓reduceIte, Nat.reduceAdd, Nat.reduceMul, Nat.reduceLT, Nat.reduceLeDiff, Nat.reduceEqDiff, Nat.reduceBEq, Int.reduceToNat]; refine hK' _ ?_; clear hK' K')
        refine AOps.nil ?_
        simp only [Post.then]
        refine hK_18 _ ?_
        clear hK_18 K_18
        refine AWp.ret ?_
        simp only [Post.then, Post.inBlock, Go.Pv.Fin, Go.Pv.FinG]
        rw [← Option.some.inj h]
        refine ⟨.tuple [.d (.agg [(.int .i64 0), (.int .i64 0)]), .d .nilslice, .d (.int .i64 11)], ?_, (by first | exact True.intro | rfl), .tuple [.d (.agg [(.int .i64 0), (.int .i64 0)]), .d .nilslice, .d (.int .i64 11)], ?_, ?_⟩
        · simp only [go_sem, Tryd.results20, List.length_append, List.length_set, List.length_replicate, reduceCtorEq, ↓reduceIte, Nat.reduceAdd, Nat.reduceMul, Nat.reduceLT, Nat.reduceLeDiff, Nat.reduceEqDiff, Nat.reduceBEq, Int.reduceToNat]
        · simp only [go_sem, lenc_nil, List.take_length, List.length_append, List.length_set, List.length_replicate, reduceCtorEq, ↓reduceIte, Nat.reduceAdd, Nat.reduceMul, Nat.reduceLT, Nat.reduceLeDiff, Nat.reduceEqDiff, Nat.reduceBEq, Int.reduceToNat]
        · (first | exact leV_refl _ | (simp only [go_sem, leV, leVL, leD, leDL, lenc_nil, leD_refl, leDL_refl, lstD_le, reduceCtorEq, ↓reduceIte, Nat.reduceAdd, Nat.reduceMul, Nat.reduceLT, Nat.reduceLeDiff, Nat.reduceEqDiff, Nat.reduceBEq, Int.reduceToNat]; done))
      · rw [hb_17, cond_false] at h
        refine AWp.skip ?_
        simp only [Post.then, Post.inBlock, ↓reduceIte, Nat.reduceEqDiff]
        refine hK_4 _ ?_
        clear hK_4 K_4
        refine AWp.seq fun K_19 hK_19 => AWp.reg ?_
        iterate 3 (refine AOps.consU fun K' hK' => ?_; simp (disch := omega) only [go_sem, reduceCtorEq, ↓reduceIte, Nat.reduceAdd, Nat.reduceMul, Nat.reduceLT, Nat.reduceLeDiff, Nat.reduceEqDiff, Nat.reduceBEq, Int.reduceToNat]; refine hK' _ ?_; clear hK' K')
        obtain ⟨r5, hx_20, h⟩ := bind_some h
        refine AOps.consU fun K' hK' => ?_; simp (disch := omega) only [go_sem, reduceCtorEq, ↓reduceIte, Nat.reduceAdd, Nat.reduceMul, Nat.reduceLT, Nat.reduceLeDiff, Nat.reduceEqDiff, Nat.reduceBEq, Int.reduceToNat]; refine OpT.call (by rfl) (by rfl) (by kernel_rfl) (m_rate_market_best_ok r1.1 from1 to1 _ hx_20) (by exact ⟨rfl, rfl, rfl, trivial⟩) (by simp only [go_sem, reduceCtorEq, ↓reduceIte, Nat.reduceAdd, Nat.reduceMul, Nat.reduceLT, Nat.reduceLeDiff, Nat.reduceEqDiff, Nat.reduceBEq, Int.reduceToNat]) ?_ (by simp only [go_sem]); simp only [go_sem, reduceCtorEq, ↓reduceIte, Nat.reduceAdd, Nat.reduceMul, Nat.reduceLT, Nat.reduceLeDiff, Nat.reduceEqDiff, Nat.reduceBEq, Int.reduceToNat]; refine hK' _ ?_; clear hK' K'
        iterate 6 (refine AOps.consU fun K' hK' => ?_; simp (disch := omega) only [go_sem, reduceCtorEq, ↓reduceIte, Nat.reduceAdd, Nat.reduceMul, Nat.reduceLT, Nat.reduceLeDiff, Nat.reduceEqDiff, Nat.reduceBEq, Int.reduceToNat]; refine hK' _ ?_; clear hK' K')
        refine AOps.nil ?_
        simp only [Post.then]
        refine hK_19 _ ?_
        clear hK_19 K_19
        refine AWp.seq fun K_21 hK_21 => ?_
        refine AWp.seq fun K_22 hK_22 => AWp.reg ?_
        iterate 2 (refine AOps.consU fun K' hK' => ?_; simp (disch := omega) only [go_sem, reduceCtorEq, ↓reduceIte, Nat.reduceAdd, Nat.reduceMul, Nat.reduceLT, Nat.reduceLeDiff, Nat.reduceEqDiff, Nat.reduceBEq, Int.reduceToNat]; refine hK' _ ?_; clear hK' K')
        refine AOps.nil ?_
        simp only [Post.then]
        refine hK_22 _ ?_
        clear hK_22 K_22
        refine AWp.cond (b := (!r5.2)) (by rfl) (fun hb_23 => ?_) (fun hb_23 => ?_)
        · rw [hb_23, cond_true] at h
          refine AWp.seq fun K_24 hK_24 => AWp.reg ?_
          iterate 4 (refine AOps.consU fun K' hK' => ?_; simp (disch := omega) only [go_sem, reduceCtorEq, ↓reduceIte, Nat.reduceAdd, Nat.reduceMul, Nat.reduceLT, Nat.reduceLeDiff, Nat.reduceEqDiff, Nat.reduceBEq, Int.reduceToNat]; refine hK' _ ?_; clear hK' K')
          refine AOps.nil ?_
          simp only [Post.then]
          refine hK_24 _ ?_
          clear hK_24 K_24
          refine AWp.ret ?_
          simp only [Post.then, Post.inBlock, Go.Pv.Fin, Go.Pv.FinG]
          rw [← Option.some.inj h]
          refine ⟨.tuple [.d (.agg [(.int .i64 0), (.int .i64 0)]), .d .nilslice, .d (.int .i64 10)], ?_, (by first | exact True.intro | rfl), .tuple [.d (.agg [(.int .i64 0), (.int .i64 0)]), .d .nilslice, .d (.int .i64 10)], ?_, ?_⟩
          · simp only [go_sem, Tryd.results20, List.length_append, List.length_set, List.length_replicate, reduceCtorEq, ↓reduceIte, Nat.reduceAdd, Nat.reduceMul, Nat.reduceLT, Nat.reduceLeDiff, Nat.reduceEqDiff, Nat.reduceBEq, Int.reduceToNat]
          · simp only [go_sem, lenc_nil, List.take_length, List.length_append, List.length_set, List.length_replicate, reduceCtorEq, ↓reduceIte, Nat.reduceAdd, Nat.reduceMul, Nat.reduceLT, Nat.reduceLeDiff, Nat.reduceEqDiff, Nat.reduceBEq, Int.reduceToNat]
          · (first | exact leV_refl _ | (simp only [go_sem, leV, leVL, leD, leDL, lenc_nil, leD_refl, leDL_refl, lstD_le, reduceCtorEq, ↓reduceIte, Nat.reduceAdd, Nat.reduceMul, Nat.reduceLT, Nat.reduceLeDiff, Nat.reduceEqDiff, Nat.reduceBEq, Int.reduceToNat]; done))
        · rw [hb_23, cond_false] at h
          refine AWp.skip ?_
          simp only [Post.then, Post.inBlock, ↓reduceIte, Nat.reduceEqDiff]
          refine hK_21 _ ?_
          clear hK_21 K_21
          refine AWp.seq fun K_25 hK_25 => AWp.draw mo [] (by trivial) ?_
          iterate 7 (refine DOps.consU fun K' hK' => ?_; simp (disch := omega) only [go_sem, reduceCtorEq, ↓reduceIte, Nat.reduceAdd, Nat.reduceMul, Nat.reduceLT, Nat.reduceLeDiff, Nat.reduceEqDiff, Nat.reduceBEq, Int.reduceToNat]; refine hK' _ _ ?_; clear hK' K'; simp only [List.nil_append, List.cons_append])
          refine DOps.nil (by kernel_rfl) ?_
          simp only [Post.then]
          refine hK_25 _ ?_
          clear hK_25 K_25
          refine AWp.ret ?_
          simp only [Post.then, Post.inBlock, Go.Pv.Fin, Go.Pv.FinG]
          rw [← Option.some.inj h]
          refine ⟨.tuple [.d (.agg [(.int .i64 r5.1.rate.Num), (.int .i64 r5.1.rate.Den)]), .d (lstD 1 (lenc (PD.int .i64) r5.1.list)), .d (.int .i64 0)], ?_, (by first | exact True.intro | rfl), .tuple [.d (.agg [(.int .i64 r5.1.rate.Num), (.int .i64 r5.1.rate.Den)]), .d (lstD 1 (lenc (PD.int .i64) r5.1.list)), .d (.int .i64 0)], ?_, ?_⟩
          · simp only [go_sem, Tryd.results20, List.length_append, List.length_set, List.length_replicate, reduceCtorEq, ↓reduceIte, Nat.reduceAdd, Nat.reduceMul, Nat.reduceLT, Nat.reduceLeDiff, Nat.reduceEqDiff, Nat.reduceBEq, Int.reduceToNat]
          · simp only [go_sem, lenc_nil, List.take_length, List.length_append, List.length_set, List.length_replicate, reduceCtorEq, ↓reduceIte, Nat.reduceAdd, Nat.reduceMul, Nat.reduceLT, Nat.reduceLeDiff, Nat.reduceEqDiff, Nat.reduceBEq, Int.reduceToNat]
          · (first | exact leV_refl _ | (simp only [go_sem, leV, leVL, leD, leDL, lenc_nil, leD_refl, leDL_refl, lstD_le, reduceCtorEq, ↓reduceIte, Nat.reduceAdd, Nat.reduceMul, Nat.reduceLT, Nat.reduceLeDiff, Nat.reduceEqDiff, Nat.reduceBEq, Int.reduceToNat]; done))

end Go.Pv.Tryd

namespace Go.Pv.Tryd
open Go.Proofs Go.Pv

theorem m_rate_Round_ok (n1 : Int) (offers1 : (List Offer)) (r : ((List Int) × Int)) (h : m_rate_Round n1 offers1 = some r) : PureFn Tryd.prog G 26 [.d (.int .i64 n1), .d (.imm 4 (lenc Offer.pd offers1))] (.tuple [.d (.imm 1 (lenc (PD.int .i64) r.1)), .d (.int .i64 r.2)]) := by
  unfold m_rate_Round at h
  refine PureFn.intro2 Tryd.func26 (by rfl) (by rw [Tryd.ntmps26]; simp) ?_
  rw [Tryd.ntmps26]
  simp only [argEnv, reduceCtorEq, ↓reduceIte, Nat.reduceAdd, Nat.reduceMul, Nat.reduceLT, Nat.reduceLeDiff, Nat.reduceEqDiff, Nat.reduceBEq, Int.reduceToNat]
  refine AWp.seq fun K_1 hK_1 => AWp.reg ?_
  iterate 2 (refine AOps.consU fun K' hK' => ?_; simp (disch := omega) only [go_sem, reduceCtorEq, ↓reduceIte, Nat.reduceAdd, Nat.reduceMul, Nat.reduceLT, Nat.reduceLeDiff, Nat.reduceEqDiff, Nat.reduceBEq, Int.reduceToNat]; refine hK' _ ?_; clear hK' K')
  refine AOps.nil ?_
  simp only [Post.then]
  refine hK_1 _ ?_
  clear hK_1 K_1
  refine AWp.seq fun K_2 hK_2 => AWp.reg ?_
  iterate 2 (refine AOps.consU fun K' hK' => ?_; simp (disch := omega) only [go_sem, reduceCtorEq, ↓reduceIte, Nat.reduceAdd, Nat.reduceMul, Nat.reduceLT, Nat.reduceLeDiff, Nat.reduceEqDiff, Nat.reduceBEq, Int.reduceToNat]; refine hK' _ ?_; clear hK' K')
  obtain ⟨r1, hx_3, h⟩ := bind_some h
  refine AOps.consU fun K' hK' => ?_; simp (disch := omega) only [go_sem, reduceCtorEq, ↓reduceIte, Nat.reduceAdd, Nat.reduceMul, Nat.reduceLT, Nat.reduceLeDiff, Nat.reduceEqDiff, Nat.reduceBEq, Int.reduceToNat]; refine OpT.call (by rfl) (by rfl) (by kernel_rfl) (m_rate_of_ok n1 offers1 _ hx_3) (by exact ⟨rfl, rfl, trivial⟩) (by simp only [go_sem, reduceCtorEq, ↓reduceIte, Nat.reduceAdd, Nat.reduceMul, Nat.reduceLT, Nat.reduceLeDiff, Nat.reduceEqDiff, Nat.reduceBEq, Int.reduceToNat]) ?_ (by simp only [go_sem]); simp only [go_sem, reduceCtorEq, ↓reduceIte, Nat.reduceAdd, Nat.reduceMul, Nat.reduceLT, Nat.reduceLeDiff, Nat.reduceEqDiff, Nat.reduceBEq, Int.reduceToNat]; refine hK' _ ?_; clear hK' K'
  iterate 6 (refine AOps.consU fun K' hK' => ?_; simp (disch := omega) only [go_sem, reduceCtorEq, ↓reduceIte, Nat.reduceAdd, Nat.reduceMul, Nat.reduceLT, Nat.reduceLeDiff, Nat.reduceEqDiff, Nat.reduceBEq, Int.reduceToNat]; refine hK' _ ?_; clear hK' K')
  refine AOps.nil ?_
  simp only [Post.then]
  refine hK_2 _ ?_
  clear hK_2 K_2
  refine AWp.seq fun K_4 hK_4 => ?_
  refine AWp.seq fun K_5 hK_5 => AWp.reg ?_
  iterate 2 (refine AOps.consU fun K' hK' => ?_; simp (disch := omega) only [go_sem, reduceCtorEq, ↓reduceIte, Nat.reduceAdd, Nat.reduceMul, Nat.reduceLT, Nat.reduceLeDiff, Nat.reduceEqDiff, Nat.reduceBEq, Int.reduceToNat]; refine hK' _ ?_; clear hK' K')
  refine AOps.nil ?_
  simp only [Post.then]
  refine hK_5 _ ?_
  clear hK_5 K_5
  refine AWp.cond (b := (decide (¬r1.2 = 0))) (by rfl) (fun hb_6 => ?_) (fun hb_6 => ?_)
  · rw [hb_6, cond_true] at h
    refine AWp.seq fun K_7 hK_7 => AWp.reg ?_
    iterate 3 (refine AOps.consU fun K' hK' => ?_; simp (disch := omega) only [go_sem, reduceCtorEq, ↓reduceIte, Nat.reduceAdd, Nat.reduceMul, Nat.reduceLT, Nat.reduceLeDiff, Nat.reduceEqDiff, Nat.reduceBEq, Int.reduceToNat]; refine hK' _ ?_; clear hK' K')
    refine AOps.nil ?_
    simp only [Post.then]
    refine hK_7 _ ?_
    clear hK_7 K_7
    refine AWp.ret ?_
    simp only [Post.then, Post.inBlock, Go.Pv.Fin, Go.Pv.FinG]
    rw [← Option.some.inj h]
    refine ⟨.tuple [.d .nilslice, .d (.int .i64 r1.2)], ?_, (by first | exact True.intro | rfl), .tuple [.d .nilslice, .d (.int .i64 r1.2)], ?_, ?_⟩
    · simp only [go_sem, Tryd.results26, List.length_append, List.length_set, List.length_replicate, reduceCtorEq, ↓reduceIte, Nat.reduceAdd, Nat.reduceMul, Nat.reduceLT, Nat.reduceLeDiff, Nat.reduceEqDiff, Nat.reduceBEq, Int.reduceToNat]
    · simp only [go_sem, lenc_nil, List.take_length, List.length_append, List.length_set, List.length_replicate, reduceCtorEq, ↓reduceIte, Nat.reduceAdd, Nat.reduceMul, Nat.reduceLT, Nat.reduceLeDiff, Nat.reduceEqDiff, Nat.reduceBEq, Int.reduceToNat]
    · (first | exact leV_refl _ | (simp only [go_sem, leV, leVL, leD, leDL, lenc_nil, leD_refl, leDL_refl, lstD_le, reduceCtorEq, ↓reduceIte, Nat.reduceAdd, Nat.reduceMul, Nat.reduceLT, Nat.reduceLeDiff, Nat.reduceEqDiff, Nat.reduceBEq, Int.reduceToNat]; done))
  · rw [hb_6, cond_false] at h
    refine AWp.skip ?_
    simp only [Post.then, Post.inBlock, ↓reduceIte, Nat.reduceEqDiff]
    refine hK_4 _ ?_
    clear hK_4 K_4
    refine AWp.seq fun K_8 hK_8 => AWp.reg ?_
    iterate 1 (refine AOps.consU fun K' hK' => ?_; simp (disch := omega) only [go_sem, reduceCtorEq, ↓reduceIte, Nat.reduceAdd, Nat.reduceMul, Nat.reduceLT, Nat.reduceLeDiff, Nat.reduceEqDiff, Nat.reduceBEq, Int.reduceToNat]; refine hK' _ ?_; clear hK' K')
    obtain ⟨r2, hx_9, h⟩ := bind_some h
    refine AOps.consU fun K' hK' => ?_; simp (disch := omega) only [go_sem, reduceCtorEq, ↓reduceIte, Nat.reduceAdd, Nat.reduceMul, Nat.reduceLT, Nat.reduceLeDiff, Nat.reduceEqDiff, Nat.reduceBEq, Int.reduceToNat]; refine OpT.call (by rfl) (by rfl) (by kernel_rfl) (m_rate_market_round_ok r1.1 _ hx_9) (by exact ⟨rfl, trivial⟩) (by simp only [go_sem, reduceCtorEq, ↓reduceIte, Nat.reduceAdd, Nat.reduceMul, Nat.reduceLT, Nat.reduceLeDiff, Nat.reduceEqDiff, Nat.reduceBEq, Int.reduceToNat]) ?_ (by simp only [go_sem]); simp only [go_sem, reduceCtorEq, ↓reduceIte, Nat.reduceAdd, Nat.reduceMul, Nat.reduceLT, Nat.reduceLeDiff, Nat.reduceEqDiff, Nat.reduceBEq, Int.reduceToNat]; refine hK' _ ?_; clear hK' K'
    iterate 1 (refine AOps.consU fun K' hK' => ?_; simp (disch := omega) only [go_sem, reduceCtorEq, ↓reduceIte, Nat.reduceAdd, Nat.reduceMul, Nat.reduceLT, Nat.reduceLeDiff, Nat.reduceEqDiff, Nat.reduceBEq, Int.reduceToNat]; refine hK' _ ?_; clear hK' K')
    refine AOps.nil ?_
    simp only [Post.then]
    refine hK_8 _ ?_
    clear hK_8 K_8
    refine AWp.seq fun K_10 hK_10 => ?_
    refine AWp.seq fun K_11 hK_11 => AWp.reg ?_
    iterate 2 (refine AOps.consU fun K' hK' => ?_; simp (disch := omega) only [go_sem, reduceCtorEq, ↓reduceIte, Nat.reduceAdd, Nat.reduceMul, Nat.reduceLT, Nat.reduceLeDiff, Nat.reduceEqDiff, Nat.reduceBEq, Int.reduceToNat]; refine hK' _ ?_; clear hK' K')
    refine AOps.nil ?_
    simp only [Post.then]
    refine hK_11 _ ?_
    clear hK_11 K_11
    refine AWp.cond (b := (r2).isEmpty) (by rfl) (fun hb_12 => ?_) (fun hb_12 => ?_)
    · rw [hb_12, cond_true] at h
      refine AWp.seq fun K_13 hK_13 => AWp.reg ?_
      iterate 2 (refine AOps.consU fun K' hK' => ?_; simp (disch := omega) only [go_sem, reduceCtorEq, ↓reduceIte, Nat.reduceAdd, Nat.reduceMul, Nat.reduceLT, Nat.reduceLeDiff, Nat.reduceEqDiff, Nat.reduceBEq, Int.reduceToNat]; refine hK' _ ?_; clear hK' K')
      refine AOps.nil ?_
      simp only [Post.then]
      refine hK_13 _ ?_
      clear hK_13 K_13
      refine AWp.ret ?_
      simp only [Post.then, Post.inBlock, Go.Pv.Fin, Go.Pv.FinG]
      rw [← Option.some.inj h]
      refine ⟨.tuple [.d .nilslice, .d (.int .i64 10)], ?_, (by first | exact True.intro | rfl), .tuple [.d .nilslice, .d (.int .i64 10)], ?_, ?_⟩
      · simp only [go_sem, Tryd.results26, List.length_append, List.length_set, List.length_replicate, reduceCtorEq, ↓reduceIte, Nat.reduceAdd, Nat.reduceMul, Nat.reduceLT, Nat.reduceLeDiff, Nat.reduceEqDiff, Nat.reduceBEq, Int.reduceToNat]
      · simp only [go_sem, lenc_nil, List.take_length, List.length_append, List.length_set, List.length_replicate, reduceCtorEq, ↓reduceIte, Nat.reduceAdd, Nat.reduceMul, Nat.reduceLT, Nat.reduceLeDiff, Nat.reduceEqDiff, Nat.reduceBEq, Int.reduceToNat]
      · (first | exact leV_refl _ | (simp only [go_sem, leV, leVL, leD, leDL, lenc_nil, leD_refl, leDL_refl, lstD_le, reduceCtorEq, ↓reduceIte, Nat.reduceAdd, Nat.reduceMul, Nat.reduceLT, Nat.reduceLeDiff, Nat.reduceEqDiff, Nat.reduceBEq, Int.reduceToNat]; done))
    · rw [hb_12, cond_false] at h
      refine AWp.skip ?_
      simp only [Post.then, Post.inBlock, ↓reduceIte, Nat.reduceEqDiff]
      refine hK_10 _ ?_
      clear hK_10 K_10
      refine AWp.seq fun K_14 hK_14 => AWp.reg ?_
      iterate 3 (refine AOps.consU fun K' hK' => ?_; simp (disch := omega) only [go_sem, reduceCtorEq, ↓reduceIte, Nat.reduceAdd, Nat.reduceMul, Nat.reduceLT, Nat.reduceLeDiff, Nat.reduceEqDiff, Nat.reduceBEq, Int.reduceToNat]; refine hK' _ ?_; clear hK' K')
      refine AOps.nil ?_
      simp only [Post.then]
      refine hK_14 _ ?_
      clear hK_14 K_14
      refine AWp.ret ?_
      simp only [Post.then, Post.inBlock, Go.Pv.Fin, Go.Pv.FinG]
      rw [← Option.some.inj h]
      refine ⟨.tuple [.d (lstD 1 (lenc (PD.int .i64) r2)), .d (.int .i64 0)], ?_, (by first | exact True.intro | rfl), .tuple [.d (lstD 1 (lenc (PD.int .i64) r2)), .d (.int .i64 0)], ?_, ?_⟩
      · simp only [go_sem, Tryd.results26, List.length_append, List.length_set, List.length_replicate, reduceCtorEq, ↓reduceIte, Nat.reduceAdd, Nat.reduceMul, Nat.reduceLT, Nat.reduceLeDiff, Nat.reduceEqDiff, Nat.reduceBEq, Int.reduceToNat]
      · simp only [go_sem, lenc_nil, List.take_length, List.length_append, List.length_set, List.length_replicate, reduceCtorEq, ↓reduceIte, Nat.reduceAdd, Nat.reduceMul, Nat.reduceLT, Nat.reduceLeDiff, Nat.reduceEqDiff, Nat.reduceBEq, Int.reduceToNat]
      · (first | exact leV_refl _ | (simp only [go_sem, leV, leVL, leD, leDL, lenc_nil, leD_refl, leDL_refl, lstD_le, reduceCtorEq, ↓reduceIte, Nat.reduceAdd, Nat.reduceMul, Nat.reduceLT, Nat.reduceLeDiff, Nat.reduceEqDiff, Nat.reduceBEq, Int.reduceToNat]; done))

end Go.Pv.Tryd

namespace Go.Pv.Tryd
open Go.Proofs Go.Pv

theorem m_cocketlaw01_same_ok (a1 : (List Int)) (b1 : (List Int)) (r : Bool) (h : m_cocketlaw01_same a1 b1 = some r) : PureFn Tryd.prog G 21 [.d (.imm 1 (lenc (PD.int .i64) a1)), .d (.imm 1 (lenc (PD.int .i64) b1))] (.d (.bool r)) := by
  unfold m_cocketlaw01_same at h
  refine PureFn.intro2 Tryd.func21 (by rfl) (by rw [Tryd.ntmps21]; simp) ?_
  rw [Tryd.ntmps21]
  simp only [argEnv, reduceCtorEq, ↓reduceIte, Nat.reduceAdd, Nat.reduceMul, Nat.reduceLT, Nat.reduceLeDiff, Nat.reduceEqDiff, Nat.reduceBEq, Int.reduceToNat]
  refine AWp.seq fun K_1 hK_1 => AWp.reg ?_
  iterate 1 (refine AOps.consU fun K' hK' => ?_; simp (disch := omega) only [go_sem, reduceCtorEq, ↓reduceIte, Nat.reduceAdd, Nat.reduceMul, Nat.reduceLT, Nat.reduceLeDiff, Nat.reduceEqDiff, Nat.reduceBEq, Int.reduceToNat]; refine hK' _ ?_; clear hK' K')
  refine AOps.nil ?_
  simp only [Post.then]
  refine hK_1 _ ?_
  clear hK_1 K_1
  refine AWp.seq fun K_2 hK_2 => ?_
  refine AWp.seq fun K_3 hK_3 => AWp.reg ?_
  iterate 5 (refine AOps.consU fun K' hK' => ?_; simp (disch := omega) only [go_sem, reduceCtorEq, ↓reduceIte, Nat.reduceAdd, Nat.reduceMul, Nat.reduceLT, Nat.reduceLeDiff, Nat.reduceEqDiff, Nat.reduceBEq, Int.reduceToNat]; refine hK' _ ?_; clear hK' K')
  refine AOps.nil ?_
  simp only [Post.then]
  refine hK_3 _ ?_
  clear hK_3 K_3
  refine AWp.cond (b := (decide (¬(a1.length : Int) = (b1.length : Int)))) (by rfl) (fun hb_4 => ?_) (fun hb_4 => ?_)
  · rw [hb_4, cond_true] at h
    refine AWp.seq fun K_5 hK_5 => AWp.reg ?_
    iterate 1 (refine AOps.consU fun K' hK' => ?_; simp (disch := omega) only [go_sem, reduceCtorEq, ↓reduceIte, Nat.reduceAdd, Nat.reduceMul, Nat.reduceLT, Nat.reduceLeDiff, Nat.reduceEqDiff, Nat.reduceBEq, Int.reduceToNat]; refine hK' _ ?_; clear hK' K')
    refine AOps.nil ?_
    simp only [Post.then]
    refine hK_5 _ ?_
    clear hK_5 K_5
    refine AWp.ret ?_
    simp only [Post.then, Post.inBlock, Go.Pv.Fin, Go.Pv.FinG]
    rw [← Option.some.inj h]
    refine ⟨.d (.bool false), ?_, (by first | exact True.intro | rfl), .d (.bool false), ?_, ?_⟩
    · simp only [go_sem, Tryd.results21, List.length_append, List.length_set, List.length_replicate, reduceCtorEq, ↓reduceIte, Nat.reduceAdd, Nat.reduceMul, Nat.reduceLT, Nat.reduceLeDiff, Nat.reduceEqDiff, Nat.reduceBEq, Int.reduceToNat]
    · simp only [go_sem, lenc_nil, List.take_length, List.length_append, List.length_set, List.length_replicate, reduceCtorEq, ↓reduceIte, Nat.reduceAdd, Nat.reduceMul, Nat.reduceLT, Nat.reduceLeDiff, Nat.reduceEqDiff, Nat.reduceBEq, Int.reduceToNat]
    · (first | exact leV_refl _ | (simp only [go_sem, leV, leVL, leD, leDL, lenc_nil, leD_refl, leDL_refl, lstD_le, reduceCtorEq, ↓reduceIte, Nat.reduceAdd, Nat.reduceMul, Nat.reduceLT, Nat.reduceLeDiff, Nat.reduceEqDiff, Nat.reduceBEq, Int.reduceToNat]; done))
  · rw [hb_4, cond_false] at h
    refine AWp.skip ?_
    simp only [Post.then, Post.inBlock, ↓reduceIte, Nat.reduceEqDiff]
    refine hK_2 _ ?_
    clear hK_2 K_2
    obtain ⟨o_6, hj_7, h⟩ := bind_some h
    refine AWp.seqI (fun i_35 : Unit => ⟨[], [], [], none⟩) (fun i_35 => o_6 = (.inl i_35)) ?_ ?_
    · refine AWp.seq fun K_8 hK_8 => AWp.reg ?_
      iterate 1 (refine AOps.consU fun K' hK' => ?_; simp (disch := omega) only [go_sem, reduceCtorEq, ↓reduceIte, Nat.reduceAdd, Nat.reduceMul, Nat.reduceLT, Nat.reduceLeDiff, Nat.reduceEqDiff, Nat.reduceBEq, Int.reduceToNat]; refine hK' _ ?_; clear hK' K')
      refine AOps.nil ?_
      simp only [Post.then]
      refine hK_8 _ ?_
      clear hK_8 K_8
      refine AWp.block ?_
      obtain ⟨x_13, hl_10, h2_11⟩ := bind_some hj_7
      obtain ⟨n_9, hl_10⟩ := iter_some hl_10
      refine AWp.loopI (fun i_33 : Nat × Int => ⟨[(0, .d (.imm 1 (lenc (PD.int .i64) a1))), (1, .d (.imm 1 (lenc (PD.int .i64) b1))), (5, .d (.int .i64 i_33.2))], [], [], none⟩) (fun i_33 => iterN (m_cocketlaw01_same_l1 a1 b1) i_33.1 i_33.2 = some x_13) (fun i_33 => i_33.1) (n_9, 0) hl_10 (Sub.mk ⟨rfl, rfl, rfl, trivial⟩ trivial ⟨trivial, trivial, trivial, trivial⟩ trivial ⟨rfl, trivial, rfl⟩) ?_
      clear hl_10
      rintro ⟨n_9, i1⟩ hl_10
      try dsimp only at hl_10
      try dsimp only
      cases n_9 with
      | zero => cases hl_10
      | succ n_9 =>
        rw [iterN_succ] at hl_10
        obtain ⟨ob_14, hb_12, hl_10⟩ := bind_some hl_10
        unfold m_cocketlaw01_same_l1 at hb_12
        try dsimp only at hb_12
        refine AWp.seq fun K_15 hK_15 => ?_
        refine AWp.seq fun K_16 hK_16 => AWp.reg ?_
        iterate 4 (refine AOps.consU fun K' hK' => ?_; simp (disch := omega) only [go_sem, reduceCtorEq, ↓reduceIte, Nat.reduceAdd, Nat.reduceMul, Nat.reduceLT, Nat.reduceLeDiff, Nat.reduceEqDiff, Nat.reduceBEq, Int.reduceToNat]; refine hK' _ ?_; clear hK' K')
        refine AOps.nil ?_
        simp only [Post.then]
        refine hK_16 _ ?_
        clear hK_16 K_16
        refine AWp.cond (b := (decide (i1 < (a1.length : Int)))) (by rfl) (fun hb_17 => ?_) (fun hb_17 => ?_)
        · rw [hb_17, cond_true] at hb_12
          refine AWp.skip ?_
          simp only [Post.then, Post.inBlock, ↓reduceIte, Nat.reduceEqDiff]
          refine hK_15 _ ?_
          clear hK_15 K_15
          refine AWp.seq fun K_18 hK_18 => ?_
          refine AWp.block ?_
          refine AWp.seq fun K_19 hK_19 => AWp.draw mo [] (by trivial) ?_
          obtain ⟨e1, hx_20, hb_12⟩ := bind_some hb_12
          obtain ⟨f_21, f_22, f_23, f_24⟩ := idx_some hx_20
          obtain ⟨e2, hx_25, hb_12⟩ := bind_some hb_12
          obtain ⟨f_26, f_27, f_28, f_29⟩ := idx_some hx_25
          iterate 9 (refine DOps.consU fun K' hK' => ?_; simp (disch := omega) only [go_sem, f_23, f_28, reduceCtorEq, ↓reduceIte, Nat.reduceAdd, Nat.reduceMul, Nat.reduceLT, Nat.reduceLeDiff, Nat.reduceEqDiff, Nat.reduceBEq, Int.reduceToNat]; refine hK' _ _ ?_; clear hK' K'; simp only [List.nil_append, List.cons_append])
          refine DOps.nil (by kernel_rfl) ?_
          simp only [Post.then]
          refine hK_19 _ ?_
          clear hK_19 K_19
          refine AWp.cond (b := (decide (¬e1 = e2))) (by rfl) (fun hb_30 => ?_) (fun hb_30 => ?_)
          · rw [hb_30, cond_true] at hb_12
            refine AWp.seq fun K_31 hK_31 => AWp.reg ?_
            iterate 1 (refine AOps.consU fun K' hK' => ?_; simp (disch := omega) only [go_sem, reduceCtorEq, ↓reduceIte, Nat.reduceAdd, Nat.reduceMul, Nat.reduceLT, Nat.reduceLeDiff, Nat.reduceEqDiff, Nat.reduceBEq, Int.reduceToNat]; refine hK' _ ?_; clear hK' K')
            refine AOps.nil ?_
            simp only [Post.then]
            refine hK_31 _ ?_
            clear hK_31 K_31
            refine AWp.ret ?_
            simp only [Post.then, Post.inBlock, Go.Pv.Fin, Go.Pv.FinG]
            rw [← Option.some.inj hb_12] at hl_10
            try dsimp only at hl_10
            rw [← Option.some.inj hl_10] at h2_11
            try dsimp only at h2_11
            rw [← Option.some.inj h2_11] at h
            try dsimp only at h
            rw [← Option.some.inj h]
            refine ⟨.d (.bool false), ?_, (by first | exact True.intro | rfl), .d (.bool false), ?_, ?_⟩
            · simp only [go_sem, Tryd.results21, List.length_append, List.length_set, List.length_replicate, reduceCtorEq, ↓reduceIte, Nat.reduceAdd, Nat.reduceMul, Nat.reduceLT, Nat.reduceLeDiff, Nat.reduceEqDiff, Nat.reduceBEq, Int.reduceToNat]
            · simp only [go_sem, lenc_nil, List.take_length, List.length_append, List.length_set, List.length_replicate, reduceCtorEq, ↓reduceIte, Nat.reduceAdd, Nat.reduceMul, Nat.reduceLT, Nat.reduceLeDiff, Nat.reduceEqDiff, Nat.reduceBEq, Int.reduceToNat]
            · (first | exact leV_refl _ | (simp only [go_sem, leV, leVL, leD, leDL, lenc_nil, leD_refl, leDL_refl, lstD_le, reduceCtorEq, ↓reduceIte, Nat.reduceAdd, Nat.reduceMul, Nat.reduceLT, Nat.reduceLeDiff, Nat.reduceEqDiff, Nat.reduceBEq, Int.reduceToNat]; done))
          · rw [hb_30, cond_false] at hb_12
            refine AWp.skip ?_
            simp only [Post.then, Post.inBlock, ↓reduceIte, Nat.reduceEqDiff]
            refine hK_18 _ ?_
            clear hK_18 K_18
            refine AWp.reg ?_
            iterate 3 (refine AOps.consU fun K' hK' => ?_; simp (disch := omega) only [go_sem, reduceCtorEq, ↓reduceIte, Nat.reduceAdd, Nat.reduceMul, Nat.reduceLT, Nat.reduceLeDiff, Nat.reduceEqDiff, Nat.reduceBEq, Int.reduceToNat]; refine hK' _ ?_; clear hK' K')
            refine AOps.nil ?_
            simp only [Post.then, Post.inBlock, ↓reduceIte, Nat.reduceEqDiff]
            rw [← Option.some.inj hb_12] at hl_10
            try dsimp only at hl_10
            exact ⟨(n_9, (IntKind.i64.wrap (i1 + 1))), hl_10, Nat.lt_succ_self n_9, (Sub.mk ⟨rfl, rfl, rfl, trivial⟩ trivial ⟨trivial, trivial, trivial, trivial⟩ trivial ⟨rfl, trivial, rfl⟩)⟩
        · rw [hb_17, cond_false] at hb_12
          refine AWp.exit ?_
          simp only [Post.then, Post.inBlock, ↓reduceIte, Nat.reduceEqDiff]
          rw [← Option.some.inj hb_12] at hl_10
          try dsimp only at hl_10
          rw [← Option.some.inj hl_10] at h2_11
          try dsimp only at h2_11
          exact ⟨(), (Option.some.inj h2_11).symm, (Sub.mk trivial trivial trivial trivial ⟨rfl, trivial, rfl⟩)⟩
    · rintro _ hx_36
      rw [hx_36] at h
      try dsimp only at h
      try dsimp only
      refine AWp.seq fun K_34 hK_34 => AWp.reg ?_
      iterate 1 (refine AOps.consU fun K' hK' => ?_; simp (disch := omega) only [go_sem, reduceCtorEq, ↓reduceIte, Nat.reduceAdd, Nat.reduceMul, Nat.reduceLT, Nat.reduceLeDiff, Nat.reduceEqDiff, Nat.reduceBEq, Int.reduceToNat]; refine hK' _ ?_; clear hK' K')
      refine AOps.nil ?_
      simp only [Post.then]
      refine hK_34 _ ?_
      clear hK_34 K_34
      refine AWp.ret ?_
      simp only [Post.then, Post.inBlock, Go.Pv.Fin, Go.Pv.FinG]
      rw [← Option.some.inj h]
      refine ⟨.d (.bool true), ?_, (by first | exact True.intro | rfl), .d (.bool true), ?_, ?_⟩
      · simp only [go_sem, Tryd.results21, List.length_append, List.length_set, List.length_replicate, reduceCtorEq, ↓reduceIte, Nat.reduceAdd, Nat.reduceMul, Nat.reduceLT, Nat.reduceLeDiff, Nat.reduceEqDiff, Nat.reduceBEq, Int.reduceToNat]
      · simp only [go_sem, lenc_nil, List.take_length, List.length_append, List.length_set, List.length_replicate, reduceCtorEq, ↓reduceIte, Nat.reduceAdd, Nat.reduceMul, Nat.reduceLT, Nat.reduceLeDiff, Nat.reduceEqDiff, Nat.reduceBEq, Int.reduceToNat]
      · (first | exact leV_refl _ | (simp only [go_sem, leV, leVL, leD, leDL, lenc_nil, leD_refl, leDL_refl, lstD_le, reduceCtorEq, ↓reduceIte, Nat.reduceAdd, Nat.reduceMul, Nat.reduceLT, Nat.reduceLeDiff, Nat.reduceEqDiff, Nat.reduceBEq, Int.reduceToNat]; done))

end Go.Pv.Tryd

namespace Go.Pv.Tryd
open Go.Proofs Go.Pv

theorem m_cocketlaw01_alive_ok (r : Bool) (h : m_cocketlaw01_alive = some r) : PureFn Tryd.prog G 18 [] (.d (.bool r)) := by
  unfold m_cocketlaw01_alive at h
  refine PureFn.intro2 Tryd.func18 (by rfl) (by rw [Tryd.ntmps18]; simp) ?_
  rw [Tryd.ntmps18]
  simp only [argEnv, reduceCtorEq, ↓reduceIte, Nat.reduceAdd, Nat.reduceMul, Nat.reduceLT, Nat.reduceLeDiff, Nat.reduceEqDiff, Nat.reduceBEq, Int.reduceToNat]
  refine AWp.seq fun K_1 hK_1 => AWp.reg ?_
  iterate 1 (refine AOps.consU fun K' hK' => ?_; simp (disch := omega) only [go_sem, reduceCtorEq, ↓reduceIte, Nat.reduceAdd, Nat.reduceMul, Nat.reduceLT, Nat.reduceLeDiff, Nat.reduceEqDiff, Nat.reduceBEq, Int.reduceToNat]; refine hK' _ ?_; clear hK' K')
  refine AOps.nil ?_
  simp only [Post.then]
  refine hK_1 _ ?_
  clear hK_1 K_1
  refine AWp.seq fun K_2 hK_2 => AWp.reg ?_
  obtain ⟨r1, hx_3, h⟩ := bind_some h
  refine AOps.consU fun K' hK' => ?_; simp (disch := omega) only [go_sem, reduceCtorEq, ↓reduceIte, Nat.reduceAdd, Nat.reduceMul, Nat.reduceLT, Nat.reduceLeDiff, Nat.reduceEqDiff, Nat.reduceBEq, Int.reduceToNat]; refine OpT.callRow (r := 1000) (by rfl) (by rfl) (by rfl) (by kernel_rfl) (m_cocketlaw01_ring_ok _ hx_3) (by exact trivial) (by simp only [go_sem, reduceCtorEq, ↓reduceIte, Nat.reduceAdd, Nat.reduceMul, Nat.reduceLT, Nat.reduceLeDiff, Nat.reduceEqDiff, Nat.reduceBEq, Int.reduceToNat]) (by rfl) (by decide) ?_; simp only [go_sem, reduceCtorEq, ↓reduceIte, Nat.reduceAdd, Nat.reduceMul, Nat.reduceLT, Nat.reduceLeDiff, Nat.reduceEqDiff, Nat.reduceBEq, Int.reduceToNat]; refine hK' _ ?_; clear hK' K'
  refine AOps.sub (τ := ⟨[(10, .d (.imm 4 (lenc Offer.pd r1)))], [], [], none⟩) (Sub.cv trivial ⟨.inr ⟨_, frz_row rfl (rfl), leV_refl _, rows_slc rfl⟩, trivial⟩ trivial ⟨rfl, trivial, rfl⟩) ?_
  obtain ⟨r2, hx_4, h⟩ := bind_some h
  refine AOps.consU fun K' hK' => ?_; simp (disch := omega) only [go_sem, reduceCtorEq, ↓reduceIte, Nat.reduceAdd, Nat.reduceMul, Nat.reduceLT, Nat.reduceLeDiff, Nat.reduceEqDiff, Nat.reduceBEq, Int.reduceToNat]; refine OpT.call (by rfl) (by rfl) (by kernel_rfl) (m_rate_Prices_ok 3 r1 _ hx_4) (by exact ⟨rfl, rfl, trivial⟩) (by simp only [go_sem, reduceCtorEq, ↓reduceIte, Nat.reduceAdd, Nat.reduceMul, Nat.reduceLT, Nat.reduceLeDiff, Nat.reduceEqDiff, Nat.reduceBEq, Int.reduceToNat]) ?_ (by simp only [go_sem]); simp only [go_sem, reduceCtorEq, ↓reduceIte, Nat.reduceAdd, Nat.reduceMul, Nat.reduceLT, Nat.reduceLeDiff, Nat.reduceEqDiff, Nat.reduceBEq, Int.reduceToNat]; refine hK' _ ?_; clear hK' K'
  iterate 5 (refine AOps.consU fun K' hK' => ?_; simp (disch := omega) only [go_sem, reduceCtorEq, ↓reduceIte, Nat.reduceAdd, Nat.reduceMul, Nat.reduceLT, Nat.reduceLeDiff, Nat.reduceEqDiff, Nat.reduceBEq, Int.reduceToNat]; refine hK' _ ?_; clear hK' K')
  refine AOps.nil ?_
  simp only [Post.then]
  refine hK_2 _ ?_
  clear hK_2 K_2
  refine AWp.seq fun K_5 hK_5 => AWp.reg ?_
  obtain ⟨r3, hx_6, h⟩ := bind_some h
  refine AOps.consU fun K' hK' => ?_; simp (disch := omega) only [go_sem, reduceCtorEq, ↓reduceIte, Nat.reduceAdd, Nat.reduceMul, Nat.reduceLT, Nat.reduceLeDiff, Nat.reduceEqDiff, Nat.reduceBEq, Int.reduceToNat]; refine OpT.callRow (r := 1000) (by rfl) (by rfl) (by rfl) (by kernel_rfl) (m_cocketlaw01_ring_ok _ hx_6) (by exact trivial) (by simp only [go_sem, reduceCtorEq, ↓reduceIte, Nat.reduceAdd, Nat.reduceMul, Nat.reduceLT, Nat.reduceLeDiff, Nat.reduceEqDiff, Nat.reduceBEq, Int.reduceToNat]) (by rfl) (by decide) ?_; simp only [go_sem, reduceCtorEq, ↓reduceIte, Nat.reduceAdd, Nat.reduceMul, Nat.reduceLT, Nat.reduceLeDiff, Nat.reduceEqDiff, Nat.reduceBEq, Int.reduceToNat]; refine hK' _ ?_; clear hK' K'
  refine AOps.sub (τ := ⟨[(1, .d (.imm 2 (lenc Ratio.pd r2.1))), (2, .d (.int .i64 r2.2)), (15, .d (.imm 4 (lenc Offer.pd r3)))], [], [], none⟩) (Sub.cv trivial ⟨.inl ⟨leV_refl _, trivial⟩, .inl ⟨leV_refl _, trivial⟩, .inr ⟨_, frz_row rfl (rfl), leV_refl _, rows_slc rfl⟩, trivial⟩ trivial ⟨rfl, trivial, rfl⟩) ?_
  obtain ⟨r4, hx_7, h⟩ := bind_some h
  refine AOps.consU fun K' hK' => ?_; simp (disch := omega) only [go_sem, reduceCtorEq, ↓reduceIte, Nat.reduceAdd, Nat.reduceMul, Nat.reduceLT, Nat.reduceLeDiff, Nat.reduceEqDiff, Nat.reduceBEq, Int.reduceToNat]; refine OpT.call (by rfl) (by rfl) (by kernel_rfl) (m_rate_Best_ok 3 r3 0 2 _ hx_7) (by exact ⟨rfl, rfl, rfl, rfl, trivial⟩) (by simp only [go_sem, reduceCtorEq, ↓reduceIte, Nat.reduceAdd, Nat.reduceMul, Nat.reduceLT, Nat.reduceLeDiff, Nat.reduceEqDiff, Nat.reduceBEq, Int.reduceToNat]) ?_ (by simp only [go_sem]); simp only [go_sem, reduceCtorEq, ↓reduceIte, Nat.reduceAdd, Nat.reduceMul, Nat.reduceLT, Nat.reduceLeDiff, Nat.reduceEqDiff, Nat.reduceBEq, Int.reduceToNat]; refine hK' _ ?_; clear hK' K'
  iterate 8 (refine AOps.consU fun K' hK' => ?_; simp (disch := omega) only [go_sem, reduceCtorEq, ↓reduceIte, Nat.reduceAdd, Nat.reduceMul, Nat.reduceLT, Nat.reduceLeDiff, Nat.reduceEqDiff, Nat.reduceBEq, Int.reduceToNat]; refine hK' _ ?_; clear hK' K')
  refine AOps.nil ?_
  simp only [Post.then]
  refine hK_5 _ ?_
  clear hK_5 K_5
  refine AWp.seq fun K_8 hK_8 => AWp.reg ?_
  obtain ⟨r5, hx_9, h⟩ := bind_some h
  refine AOps.consU fun K' hK' => ?_; simp (disch := omega) only [go_sem, reduceCtorEq, ↓reduceIte, Nat.reduceAdd, Nat.reduceMul, Nat.reduceLT, Nat.reduceLeDiff, Nat.reduceEqDiff, Nat.reduceBEq, Int.reduceToNat]; refine OpT.callRow (r := 1001) (by rfl) (by rfl) (by rfl) (by kernel_rfl) (m_cocketlaw01_ring_ok _ hx_9) (by exact trivial) (by simp only [go_sem, reduceCtorEq, ↓reduceIte, Nat.reduceAdd, Nat.reduceMul, Nat.reduceLT, Nat.reduceLeDiff, Nat.reduceEqDiff, Nat.reduceBEq, Int.reduceToNat]) (by rfl) (by decide) ?_; simp only [go_sem, reduceCtorEq, ↓reduceIte, Nat.reduceAdd, Nat.reduceMul, Nat.reduceLT, Nat.reduceLeDiff, Nat.reduceEqDiff, Nat.reduceBEq, Int.reduceToNat]; refine hK' _ ?_; clear hK' K'
  iterate 1 (refine AOps.consU fun K' hK' => ?_; simp (disch := omega) only [go_sem, reduceCtorEq, ↓reduceIte, Nat.reduceAdd, Nat.reduceMul, Nat.reduceLT, Nat.reduceLeDiff, Nat.reduceEqDiff, Nat.reduceBEq, Int.reduceToNat]; refine hK' _ ?_; clear hK' K')
  refine AOps.nil ?_
  simp only [Post.then]
  refine hK_8 _ ?_
  clear hK_8 K_8
  refine AWp.seq fun K_10 hK_10 => AWp.reg ?_
  obtain ⟨e1, hx_11, h⟩ := bind_some h
  obtain ⟨f_12, f_13, f_14, f_15⟩ := idx_some hx_11
  try simp only [Int.reduceToNat] at f_14 f_15
  iterate 4 (refine AOps.consU fun K' hK' => ?_; simp (disch := omega) only [go_sem, f_14, reduceCtorEq, ↓reduceIte, Nat.reduceAdd, Nat.reduceMul, Nat.reduceLT, Nat.reduceLeDiff, Nat.reduceEqDiff, Nat.reduceBEq, Int.reduceToNat]; refine hK' _ ?_; clear hK' K')
  refine AOps.nil ?_
  simp only [Post.then]
  refine hK_10 _ ?_
  clear hK_10 K_10
  refine AWp.seq fun K_16 hK_16 => AWp.reg ?_
  iterate 1 (refine AOps.consU fun K' hK' => ?_; simp (disch := omega) only [go_sem, reduceCtorEq, ↓reduceIte, Nat.reduceAdd, Nat.reduceMul, Nat.reduceLT, Nat.reduceLeDiff, Nat.reduceEqDiff, Nat.reduceBEq, Int.reduceToNat]; refine hK' _ ?_; clear hK' K')
  refine AOps.sub (τ := ⟨[(1, .d (.imm 2 (lenc Ratio.pd r2.1))), (2, .d (.int .i64 r2.2)), (3, .ptr 1000 0 0), (4, .d (.imm 1 (lenc (PD.int .i64) r4.2.1))), (5, .d (.int .i64 r4.2.2)), (25, .d (.imm 4 (lenc Offer.pd (r5.set 2 (⟨e1.From, e1.To, e1.Num, 2⟩ : Offer)))))], [(1000, ⟨26, 2, [.d (.agg [(.int .i64 r4.1.Num), (.int .i64 r4.1.Den)])]⟩)], [], none⟩) (Sub.cv ⟨rfl, trivial⟩ ⟨.inl ⟨leV_refl _, trivial⟩, .inl ⟨leV_refl _, trivial⟩, .inl ⟨leV_refl _, rfl⟩, .inl ⟨leV_refl _, trivial⟩, .inl ⟨leV_refl _, trivial⟩, .inr ⟨_, frz_row rfl (by simp only [List.length_append, List.length_set, List.length_replicate, List.length_cons, List.length_nil, Nat.zero_add]), leV_refl _, rows_slc rfl⟩, trivial⟩ ⟨⟨trivial, trivial⟩, trivial⟩ ⟨rfl, trivial, rfl⟩) ?_
  obtain ⟨r6, hx_17, h⟩ := bind_some h
  refine AOps.consU fun K' hK' => ?_; simp (disch := omega) only [go_sem, reduceCtorEq, ↓reduceIte, Nat.reduceAdd, Nat.reduceMul, Nat.reduceLT, Nat.reduceLeDiff, Nat.reduceEqDiff, Nat.reduceBEq, Int.reduceToNat]; refine OpT.call (by rfl) (by rfl) (by kernel_rfl) (m_rate_Round_ok 3 (r5.set 2 (⟨e1.From, e1.To, e1.Num, 2⟩ : Offer)) _ hx_17) (by exact ⟨rfl, rfl, trivial⟩) (by simp only [go_sem, reduceCtorEq, ↓reduceIte, Nat.reduceAdd, Nat.reduceMul, Nat.reduceLT, Nat.reduceLeDiff, Nat.reduceEqDiff, Nat.reduceBEq, Int.reduceToNat]) ?_ (by simp only [go_sem]); simp only [go_sem, reduceCtorEq, ↓reduceIte, Nat.reduceAdd, Nat.reduceMul, Nat.reduceLT, Nat.reduceLeDiff, Nat.reduceEqDiff, Nat.reduceBEq, Int.reduceToNat]; refine hK' _ ?_; clear hK' K'
  iterate 5 (refine AOps.consU fun K' hK' => ?_; simp (disch := omega) only [go_sem, reduceCtorEq, ↓reduceIte, Nat.reduceAdd, Nat.reduceMul, Nat.reduceLT, Nat.reduceLeDiff, Nat.reduceEqDiff, Nat.reduceBEq, Int.reduceToNat]; refine hK' _ ?_; clear hK' K')
  refine AOps.nil ?_
  simp only [Post.then]
  refine hK_16 _ ?_
  clear hK_16 K_16
  refine AWp.seq fun K_18 hK_18 => AWp.reg ?_
  iterate 3 (refine AOps.consU fun K' hK' => ?_; simp (disch := omega) only [go_sem, reduceCtorEq, ↓reduceIte, Nat.reduceAdd, Nat.reduceMul, Nat.reduceLT, Nat.reduceLeDiff, Nat.reduceEqDiff, Nat.reduceBEq, Int.reduceToNat]; refine hK' _ ?_; clear hK' K')
  refine AOps.cut 4 (⟨[(1, .d (.imm 2 (lenc Ratio.pd r2.1))), (3, .ptr 1000 0 0), (4, .d (.imm 1 (lenc (PD.int .i64) r4.2.1))), (5, .d (.int .i64 r4.2.2)), (7, .d (.imm 1 (lenc (PD.int .i64) r6.1))), (8, .d (.int .i64 r6.2)), (35, .d (.bool ((decide (r2.2 = 0)) && (decide ((r2.1.length : Int) = 3)))))], [(1000, ⟨26, 2, [.d (.agg [(.int .i64 r4.1.Num), (.int .i64 r4.1.Den)])]⟩)], [], none⟩) ?_ ?_
  · simp only [List.take_succ_cons, List.take_zero]
    rcases Bool.eq_false_or_eq_true (decide (r2.2 = 0)) with hg_20 | hg_20
    · rw [hg_20]
      iterate 4 (refine AOps.consU fun K' hK' => ?_; simp (disch := omega) only [go_sem, reduceCtorEq, ↓reduceIte, Nat.reduceAdd, Nat.reduceMul, Nat.reduceLT, Nat.reduceLeDiff, Nat.reduceEqDiff, Nat.reduceBEq, Int.reduceToNat]; refine hK' _ ?_; clear hK' K')
      refine AOps.nil ?_
      exact (Sub.mk ⟨rfl, rfl, rfl, rfl, rfl, rfl, rfl, trivial⟩ ⟨rfl, trivial⟩ ⟨trivial, rfl, trivial, trivial, trivial, trivial, trivial, trivial⟩ ⟨⟨trivial, trivial⟩, trivial⟩ ⟨rfl, trivial, rfl⟩)
    · rw [hg_20]
      iterate 4 (refine AOps.consU fun K' hK' => ?_; simp (disch := omega) only [go_sem, reduceCtorEq, ↓reduceIte, Nat.reduceAdd, Nat.reduceMul, Nat.reduceLT, Nat.reduceLeDiff, Nat.reduceEqDiff, Nat.reduceBEq, Int.reduceToNat]; refine hK' _ ?_; clear hK' K')
      refine AOps.nil ?_
      exact (Sub.mk ⟨rfl, rfl, rfl, rfl, rfl, rfl, rfl, trivial⟩ ⟨rfl, trivial⟩ ⟨trivial, rfl, trivial, trivial, trivial, trivial, trivial, trivial⟩ ⟨⟨trivial, trivial⟩, trivial⟩ ⟨rfl, trivial, rfl⟩)
  simp only [List.drop_succ_cons, List.drop_zero]
  iterate 1 (refine AOps.consU fun K' hK' => ?_; simp (disch := omega) only [go_sem, reduceCtorEq, ↓reduceIte, Nat.reduceAdd, Nat.reduceMul, Nat.reduceLT, Nat.reduceLeDiff, Nat.reduceEqDiff, Nat.reduceBEq, Int.reduceToNat]; refine hK' _ ?_; clear hK' K')
  obtain ⟨b1, hc_21, h⟩ := bind_some h
  refine AOps.cut 6 (⟨[(3, .ptr 1000 0 0), (4, .d (.imm 1 (lenc (PD.int .i64) r4.2.1))), (5, .d (.int .i64 r4.2.2)), (7, .d (.imm 1 (lenc (PD.int .i64) r6.1))), (8, .d (.int .i64 r6.2)), (42, .d (.bool b1))], [(1000, ⟨26, 2, [.d (.agg [(.int .i64 r4.1.Num), (.int .i64 r4.1.Den)])]⟩)], [], none⟩) ?_ ?_
  · simp only [List.take_succ_cons, List.take_zero]
    rcases Bool.eq_false_or_eq_true ((decide (r2.2 = 0)) && (decide ((r2.1.length : Int) = 3))) with hg_27 | hg_27
    · rw [hg_27]
      rw [hg_27, cond_true] at hc_21
      obtain ⟨e2, hx_22, hc_21⟩ := bind_some hc_21
      obtain ⟨f_23, f_24, f_25, f_26⟩ := idx_some hx_22
      try simp only [Int.reduceToNat] at f_25 f_26
      iterate 4 (refine AOps.consU fun K' hK' => ?_; simp (disch := omega) only [go_sem, f_25, reduceCtorEq, ↓reduceIte, Nat.reduceAdd, Nat.reduceMul, Nat.reduceLT, Nat.reduceLeDiff, Nat.reduceEqDiff, Nat.reduceBEq, Int.reduceToNat]; refine hK' _ ?_; clear hK' K')
      refine AOps.consX fun K' hK' => ?_; simp (disch := omega) only [go_sem, f_25, fsl26, reduceCtorEq, ↓reduceIte, Nat.reduceAdd, Nat.reduceMul, Nat.reduceLT, Nat.reduceLeDiff, Nat.reduceEqDiff, Nat.reduceBEq, Int.reduceToNat]; refine hK' _ ?_; clear hK' K'
      iterate 1 (refine AOps.consU fun K' hK' => ?_; simp (disch := omega) only [go_sem, f_25, reduceCtorEq, ↓reduceIte, Nat.reduceAdd, Nat.reduceMul, Nat.reduceLT, Nat.reduceLeDiff, Nat.reduceEqDiff, Nat.reduceBEq, Int.reduceToNat]; refine hK' _ ?_; clear hK' K')
      refine AOps.nil ?_
      have hc_21 := Option.some.inj hc_21
      subst hc_21
      exact (Sub.mk ⟨rfl, rfl, rfl, rfl, rfl, rfl, trivial⟩ ⟨rfl, trivial⟩ ⟨rfl, trivial, trivial, trivial, trivial, trivial, trivial⟩ ⟨⟨trivial, trivial⟩, trivial⟩ ⟨rfl, trivial, rfl⟩)
    · rw [hg_27]
      rw [hg_27, cond_false] at hc_21
      iterate 6 (refine AOps.consU fun K' hK' => ?_; simp (disch := omega) only [go_sem, reduceCtorEq, ↓reduceIte, Nat.reduceAdd, Nat.reduceMul, Nat.reduceLT, Nat.reduceLeDiff, Nat.reduceEqDiff, Nat.reduceBEq, Int.reduceToNat]; refine hK' _ ?_; clear hK' K')
      refine AOps.nil ?_
      have hc_21 := Option.some.inj hc_21
      subst hc_21
      exact (Sub.mk ⟨rfl, rfl, rfl, rfl, rfl, rfl, trivial⟩ ⟨rfl, trivial⟩ ⟨rfl, trivial, trivial, trivial, trivial, trivial, trivial⟩ ⟨⟨trivial, trivial⟩, trivial⟩ ⟨rfl, trivial, rfl⟩)
  simp only [List.drop_succ_cons, List.drop_zero]
  iterate 1 (refine AOps.consU fun K' hK' => ?_; simp (disch := omega) only [go_sem, reduceCtorEq, ↓reduceIte, Nat.reduceAdd, Nat.reduceMul, Nat.reduceLT, Nat.reduceLeDiff, Nat.reduceEqDiff, Nat.reduceBEq, Int.reduceToNat]; refine hK' _ ?_; clear hK' K')
  refine AOps.cut 3 (⟨[(3, .ptr 1000 0 0), (4, .d (.imm 1 (lenc (PD.int .i64) r4.2.1))), (7, .d (.imm 1 (lenc (PD.int .i64) r6.1))), (8, .d (.int .i64 r6.2)), (46, .d (.bool (b1 && (decide (r4.2.2 = 0)))))], [(1000, ⟨26, 2, [.d (.agg [(.int .i64 r4.1.Num), (.int .i64 r4.1.Den)])]⟩)], [], none⟩) ?_ ?_
  · simp only [List.take_succ_cons, List.take_zero]
    rcases Bool.eq_false_or_eq_true b1 with hg_29 | hg_29
    · rw [hg_29]
      iterate 3 (refine AOps.consU fun K' hK' => ?_; simp (disch := omega) only [go_sem, reduceCtorEq, ↓reduceIte, Nat.reduceAdd, Nat.reduceMul, Nat.reduceLT, Nat.reduceLeDiff, Nat.reduceEqDiff, Nat.reduceBEq, Int.reduceToNat]; refine hK' _ ?_; clear hK' K')
      refine AOps.nil ?_
      exact (Sub.mk ⟨rfl, rfl, rfl, rfl, rfl, trivial⟩ ⟨rfl, trivial⟩ ⟨rfl, trivial, trivial, trivial, trivial, trivial⟩ ⟨⟨trivial, trivial⟩, trivial⟩ ⟨rfl, trivial, rfl⟩)
    · rw [hg_29]
      iterate 3 (refine AOps.consU fun K' hK' => ?_; simp (disch := omega) only [go_sem, reduceCtorEq, ↓reduceIte, Nat.reduceAdd, Nat.reduceMul, Nat.reduceLT, Nat.reduceLeDiff, Nat.reduceEqDiff, Nat.reduceBEq, Int.reduceToNat]; refine hK' _ ?_; clear hK' K')
      refine AOps.nil ?_
      exact (Sub.mk ⟨rfl, rfl, rfl, rfl, rfl, trivial⟩ ⟨rfl, trivial⟩ ⟨rfl, trivial, trivial, trivial, trivial, trivial⟩ ⟨⟨trivial, trivial⟩, trivial⟩ ⟨rfl, trivial, rfl⟩)
  simp only [List.drop_succ_cons, List.drop_zero]
  iterate 1 (refine AOps.consU fun K' hK' => ?_; simp (disch := omega) only [go_sem, reduceCtorEq, ↓reduceIte, Nat.reduceAdd, Nat.reduceMul, Nat.reduceLT, Nat.reduceLeDiff, Nat.reduceEqDiff, Nat.reduceBEq, Int.reduceToNat]; refine hK' _ ?_; clear hK' K')
  refine AOps.cut 4 (⟨[(4, .d (.imm 1 (lenc (PD.int .i64) r4.2.1))), (7, .d (.imm 1 (lenc (PD.int .i64) r6.1))), (8, .d (.int .i64 r6.2)), (51, .d (.bool ((b1 && (decide (r4.2.2 = 0))) && ((r4.1.Num == 3) && (r4.1.Den == 1)))))], [], [], none⟩) ?_ ?_
  · simp only [List.take_succ_cons, List.take_zero]
    rcases Bool.eq_false_or_eq_true (b1 && (decide (r4.2.2 = 0))) with hg_31 | hg_31
    · rw [hg_31]
      iterate 2 (refine AOps.consU fun K' hK' => ?_; simp (disch := omega) only [go_sem, reduceCtorEq, ↓reduceIte, Nat.reduceAdd, Nat.reduceMul, Nat.reduceLT, Nat.reduceLeDiff, Nat.reduceEqDiff, Nat.reduceBEq, Int.reduceToNat]; refine hK' _ ?_; clear hK' K')
      refine AOps.consX fun K' hK' => ?_; simp (disch := omega) only [go_sem, fsl26, reduceCtorEq, ↓reduceIte, Nat.reduceAdd, Nat.reduceMul, Nat.reduceLT, Nat.reduceLeDiff, Nat.reduceEqDiff, Nat.reduceBEq, Int.reduceToNat]; refine hK' _ ?_; clear hK' K'
      iterate 1 (refine AOps.consU fun K' hK' => ?_; simp (disch := omega) only [go_sem, reduceCtorEq, ↓reduceIte, Nat.reduceAdd, Nat.reduceMul, Nat.reduceLT, Nat.reduceLeDiff, Nat.reduceEqDiff, Nat.reduceBEq, Int.reduceToNat]; refine hK' _ ?_; clear hK' K')
      refine AOps.nil ?_
      exact (Sub.mk ⟨rfl, rfl, rfl, rfl, trivial⟩ trivial ⟨trivial, trivial, trivial, trivial, trivial⟩ trivial ⟨rfl, trivial, rfl⟩)
    · rw [hg_31]
      iterate 4 (refine AOps.consU fun K' hK' => ?_; simp (disch := omega) only [go_sem, reduceCtorEq, ↓reduceIte, Nat.reduceAdd, Nat.reduceMul, Nat.reduceLT, Nat.reduceLeDiff, Nat.reduceEqDiff, Nat.reduceBEq, Int.reduceToNat]; refine hK' _ ?_; clear hK' K')
      refine AOps.nil ?_
      exact (Sub.mk ⟨rfl, rfl, rfl, rfl, trivial⟩ trivial ⟨trivial, trivial, trivial, trivial, trivial⟩ trivial ⟨rfl, trivial, rfl⟩)
  simp only [List.drop_succ_cons, List.drop_zero]
  iterate 1 (refine AOps.consU fun K' hK' => ?_; simp (disch := omega) only [go_sem, reduceCtorEq, ↓reduceIte, Nat.reduceAdd, Nat.reduceMul, Nat.reduceLT, Nat.reduceLeDiff, Nat.reduceEqDiff, Nat.reduceBEq, Int.reduceToNat]; refine hK' _ ?_; clear hK' K')
  refine AOps.cut 4 (⟨[(7, .d (.imm 1 (lenc (PD.int .i64) r6.1))), (8, .d (.int .i64 r6.2)), (56, .d (.bool (((b1 && (decide (r4.2.2 = 0))) && ((r4.1.Num == 3) && (r4.1.Den == 1))) && (decide ((r4.2.1.length : Int) = 2)))))], [], [], none⟩) ?_ ?_
  · simp only [List.take_succ_cons, List.take_zero]
    rcases Bool.eq_false_or_eq_true ((b1 && (decide (r4.2.2 = 0))) && ((r4.1.Num == 3) && (r4.1.Den == 1))) with hg_33 | hg_33
    · rw [hg_33]
      iterate 4 (refine AOps.consU fun K' hK' => ?_; simp (disch := omega) only [go_sem, reduceCtorEq, ↓reduceIte, Nat.reduceAdd, Nat.reduceMul, Nat.reduceLT, Nat.reduceLeDiff, Nat.reduceEqDiff, Nat.reduceBEq, Int.reduceToNat]; refine hK' _ ?_; clear hK' K')
      refine AOps.nil ?_
      exact (Sub.mk ⟨rfl, rfl, rfl, trivial⟩ trivial ⟨trivial, trivial, trivial, trivial⟩ trivial ⟨rfl, trivial, rfl⟩)
    · rw [hg_33]
      iterate 4 (refine AOps.consU fun K' hK' => ?_; simp (disch := omega) only [go_sem, reduceCtorEq, ↓reduceIte, Nat.reduceAdd, Nat.reduceMul, Nat.reduceLT, Nat.reduceLeDiff, Nat.reduceEqDiff, Nat.reduceBEq, Int.reduceToNat]; refine hK' _ ?_; clear hK' K')
      refine AOps.nil ?_
      exact (Sub.mk ⟨rfl, rfl, rfl, trivial⟩ trivial ⟨trivial, trivial, trivial, trivial⟩ trivial ⟨rfl, trivial, rfl⟩)
  simp only [List.drop_succ_cons, List.drop_zero]
  iterate 1 (refine AOps.consU fun K' hK' => ?_; simp (disch := omega) only [go_sem, reduceCtorEq, ↓reduceIte, Nat.reduceAdd, Nat.reduceMul, Nat.reduceLT, Nat.reduceLeDiff, Nat.reduceEqDiff, Nat.reduceBEq, Int.reduceToNat]; refine hK' _ ?_; clear hK' K')
  refine AOps.cut 3 (⟨[(7, .d (.imm 1 (lenc (PD.int .i64) r6.1))), (60, .d (.bool ((((b1 && (decide (r4.2.2 = 0))) && ((r4.1.Num == 3) && (r4.1.Den == 1))) && (decide ((r4.2.1.length : Int) = 2))) && (decide (r6.2 = 0)))))], [], [], none⟩) ?_ ?_
  · simp only [List.take_succ_cons, List.take_zero]
    rcases Bool.eq_false_or_eq_true (((b1 && (decide (r4.2.2 = 0))) && ((r4.1.Num == 3) && (r4.1.Den == 1))) && (decide ((r4.2.1.length : Int) = 2))) with hg_35 | hg_35
    · rw [hg_35]
      iterate 3 (refine AOps.consU fun K' hK' => ?_; simp (disch := omega) only [go_sem, reduceCtorEq, ↓reduceIte, Nat.reduceAdd, Nat.reduceMul, Nat.reduceLT, Nat.reduceLeDiff, Nat.reduceEqDiff, Nat.reduceBEq, Int.reduceToNat]; refine hK' _ ?_; clear hK' K')
      refine AOps.nil ?_
      exact (Sub.mk ⟨rfl, rfl, trivial⟩ trivial ⟨trivial, trivial, trivial⟩ trivial ⟨rfl, trivial, rfl⟩)
    · rw [hg_35]
      iterate 3 (refine AOps.consU fun K' hK' => ?_; simp (disch := omega) only [go_sem, reduceCtorEq, ↓reduceIte, Nat.reduceAdd, Nat.reduceMul, Nat.reduceLT, Nat.reduceLeDiff, Nat.reduceEqDiff, Nat.reduceBEq, Int.reduceToNat]; refine hK' _ ?_; clear hK' K')
      refine AOps.nil ?_
      exact (Sub.mk ⟨rfl, rfl, trivial⟩ trivial ⟨trivial, trivial, trivial⟩ trivial ⟨rfl, trivial, rfl⟩)
  simp only [List.drop_succ_cons, List.drop_zero]
  iterate 1 (refine AOps.consU fun K' hK' => ?_; simp (disch := omega) only [go_sem, reduceCtorEq, ↓reduceIte, Nat.reduceAdd, Nat.reduceMul, Nat.reduceLT, Nat.reduceLeDiff, Nat.reduceEqDiff, Nat.reduceBEq, Int.reduceToNat]; refine hK' _ ?_; clear hK' K')
  obtain ⟨b2, hc_36, h⟩ := bind_some h
  refine AOps.cut 4 (⟨[(65, .d (.bool b2))], [], [], none⟩) ?_ ?_
  · simp only [List.take_succ_cons, List.take_zero]
    rcases Bool.eq_false_or_eq_true ((((b1 && (decide (r4.2.2 = 0))) && ((r4.1.Num == 3) && (r4.1.Den == 1))) && (decide ((r4.2.1.length : Int) = 2))) && (decide (r6.2 = 0))) with hg_38 | hg_38
    · rw [hg_38]
      rw [hg_38, cond_true] at hc_36
      iterate 1 (refine AOps.consU fun K' hK' => ?_; simp (disch := omega) only [go_sem, reduceCtorEq, ↓reduceIte, Nat.reduceAdd, Nat.reduceMul, Nat.reduceLT, Nat.reduceLeDiff, Nat.reduceEqDiff, Nat.reduceBEq, Int.reduceToNat]; refine hK' _ ?_; clear hK' K')
      refine AOps.consL fun K' hK' => ?_; simp (disch := omega) only [go_sem, reduceCtorEq, ↓reduceIte, Nat.reduceAdd, Nat.reduceMul, Nat.reduceLT, Nat.reduceLeDiff, Nat.reduceEqDiff, Nat.reduceBEq, Int.reduceToNat]; refine hK' _ ?_; clear hK' K'
      obtain ⟨r7, hx_37, hc_36⟩ := bind_some hc_36
      refine AOps.consU fun K' hK' => ?_; simp (disch := omega) only [go_sem, reduceCtorEq, ↓reduceIte, Nat.reduceAdd, Nat.reduceMul, Nat.reduceLT, Nat.reduceLeDiff, Nat.reduceEqDiff, Nat.reduceBEq, Int.reduceToNat]; refine OpT.call (by rfl) (by rfl) (by kernel_rfl) (m_cocketlaw01_same_ok r6.1 [0, 1, 2] _ hx_37) (by exact ⟨rfl, rfl, trivial⟩) (by simp only [go_sem, reduceCtorEq, ↓reduceIte, Nat.reduceAdd, Nat.reduceMul, Nat.reduceLT, Nat.reduceLeDiff, Nat.reduceEqDiff, Nat.reduceBEq, Int.reduceToNat]) ?_ (by simp only [go_sem]); simp only [go_sem, reduceCtorEq, ↓reduceIte, Nat.reduceAdd, Nat.reduceMul, Nat.reduceLT, Nat.reduceLeDiff, Nat.reduceEqDiff, Nat.reduceBEq, Int.reduceToNat]; refine hK' _ ?_; clear hK' K'
      iterate 1 (refine AOps.consU fun K' hK' => ?_; simp (disch := omega) only [go_sem, reduceCtorEq, ↓reduceIte, Nat.reduceAdd, Nat.reduceMul, Nat.reduceLT, Nat.reduceLeDiff, Nat.reduceEqDiff, Nat.reduceBEq, Int.reduceToNat]; refine hK' _ ?_; clear hK' K')
      refine AOps.nil ?_
      have hc_36 := Option.some.inj hc_36
      subst hc_36
      exact (Sub.mk ⟨rfl, trivial⟩ trivial ⟨trivial, trivial⟩ trivial ⟨rfl, trivial, rfl⟩)
    · rw [hg_38]
      rw [hg_38, cond_false] at hc_36
      iterate 4 (refine AOps.consU fun K' hK' => ?_; simp (disch := omega) only [go_sem, reduceCtorEq, ↓reduceIte, Nat.reduceAdd, Nat.reduceMul, Nat.reduceLT, Nat.reduceLeDiff, Nat.reduceEqDiff, Nat.reduceBEq, Int.reduceToNat]; refine hK' _ ?_; clear hK' K')
      refine AOps.nil ?_
      have hc_36 := Option.some.inj hc_36
      subst hc_36
      exact (Sub.mk ⟨rfl, trivial⟩ trivial ⟨trivial, trivial⟩ trivial ⟨rfl, trivial, rfl⟩)
  simp only [List.drop_succ_cons, List.drop_zero]
  iterate 1 (refine AOps.consU fun K' hK' => ?_; simp (disch := omega) only [go_sem, reduceCtorEq, ↓reduceIte, Nat.reduceAdd, Nat.reduceMul, Nat.reduceLT, Nat.reduceLeDiff, Nat.reduceEqDiff, Nat.reduceBEq, Int.reduceToNat]; refine hK' _ ?_; clear hK' K')
  refine AOps.nil ?_
  simp only [Post.then]
  refine hK_18 _ ?_
  clear hK_18 K_18
  refine AWp.ret ?_
  simp only [Post.then, Post.inBlock, Go.Pv.Fin, Go.Pv.FinG]
  rw [← Option.some.inj h]
  refine ⟨.d (.bool b2), ?_, (by first | exact True.intro | rfl), .d (.bool b2), ?_, ?_⟩
  · simp only [go_sem, Tryd.results18, List.length_append, List.length_set, List.length_replicate, reduceCtorEq, ↓reduceIte, Nat.reduceAdd, Nat.reduceMul, Nat.reduceLT, Nat.reduceLeDiff, Nat.reduceEqDiff, Nat.reduceBEq, Int.reduceToNat]
  · simp only [go_sem, lenc_nil, List.take_length, List.length_append, List.length_set, List.length_replicate, reduceCtorEq, ↓reduceIte, Nat.reduceAdd, Nat.reduceMul, Nat.reduceLT, Nat.reduceLeDiff, Nat.reduceEqDiff, Nat.reduceBEq, Int.reduceToNat]
  · (first | exact leV_refl _ | (simp only [go_sem, leV, leVL, leD, leDL, lenc_nil, leD_refl, leDL_refl, lstD_le, reduceCtorEq, ↓reduceIte, Nat.reduceAdd, Nat.reduceMul, Nat.reduceLT, Nat.reduceLeDiff, Nat.reduceEqDiff, Nat.reduceBEq, Int.reduceToNat]; done))

end Go.Pv.Tryd

namespace Go.Pv.Tryd
open Go.Proofs Go.Pv

theorem m_rate_market_follow_ok (m1 : Market) (list1 : (List Int)) (r : (Ratio × (List Int) × Bool)) (h : m_rate_market_follow m1 list1 = some r) : PureFn Tryd.prog G 64 [.d (.agg [(.int .i64 m1.n), (.imm 4 (lenc Offer.pd m1.offers))]), .d (.imm 1 (lenc (PD.int .i64) list1))] (.tuple [.d (.agg [(.int .i64 r.1.Num), (.int .i64 r.1.Den)]), .d (.imm 1 (lenc (PD.int .i64) r.2.1)), .d (.bool r.2.2)]) := by
  unfold m_rate_market_follow at h
  refine PureFn.intro2 Tryd.func64 (by rfl) (by rw [Tryd.ntmps64]; simp) ?_
  rw [Tryd.ntmps64]
  simp only [argEnv, reduceCtorEq, ↓reduceIte, Nat.reduceAdd, Nat.reduceMul, Nat.reduceLT, Nat.reduceLeDiff, Nat.reduceEqDiff, Nat.reduceBEq, Int.reduceToNat]
  refine AWp.seq fun K_1 hK_1 => AWp.reg ?_
  iterate 4 (refine AOps.consU fun K' hK' => ?_; simp (disch := omega) only [go_sem, reduceCtorEq, ↓reduceIte, Nat.reduceAdd, Nat.reduceMul, Nat.reduceLT, Nat.reduceLeDiff, Nat.reduceEqDiff, Nat.reduceBEq, Int.reduceToNat]; refine hK' _ ?_; clear hK' K')
  refine AOps.nil ?_
  simp only [Post.then]
  refine hK_1 _ ?_
  clear hK_1 K_1
  refine AWp.sub (Sub.void 5 3 1 1002 (by rfl) (by rfl) (by decide) (by decide)) ?_
  simp only [eput, hput, reduceCtorEq, ↓reduceIte, Nat.reduceAdd, Nat.reduceMul, Nat.reduceLT, Nat.reduceLeDiff, Nat.reduceEqDiff, Nat.reduceBEq, Int.reduceToNat]
  refine AWp.seq fun K_2 hK_2 => AWp.reg ?_
  iterate 2 (refine AOps.consU fun K' hK' => ?_; simp (disch := omega) only [go_sem, reduceCtorEq, ↓reduceIte, Nat.reduceAdd, Nat.reduceMul, Nat.reduceLT, Nat.reduceLeDiff, Nat.reduceEqDiff, Nat.reduceBEq, Int.reduceToNat]; refine hK' _ ?_; clear hK' K')
  refine AOps.nil ?_
  simp only [Post.then]
  refine hK_2 _ ?_
  clear hK_2 K_2
  obtain ⟨o_3, hj_4, h⟩ := bind_some h
  refine AWp.seqI (fun i_140 : (Ratio × (List Int)) => ⟨[(4, .ptr 1001 0 0), (5, .slc 1002 0 i_140.2.length)], [(1001, ⟨26, 2, [.d (.agg [(.int .i64 i_140.1.Num), (.int .i64 i_140.1.Den)])]⟩), (1002, ⟨3, 1, dl (lenc (PD.int .i64) i_140.2)⟩)], [], none⟩) (fun i_140 => o_3 = (.inl i_140)) ?_ ?_
  · refine AWp.seq fun K_5 hK_5 => AWp.reg ?_
    iterate 3 (refine AOps.consU fun K' hK' => ?_; simp (disch := omega) only [go_sem, reduceCtorEq, ↓reduceIte, Nat.reduceAdd, Nat.reduceMul, Nat.reduceLT, Nat.reduceLeDiff, Nat.reduceEqDiff, Nat.reduceBEq, Int.reduceToNat]; refine hK' _ ?_; clear hK' K')
    refine AOps.nil ?_
    simp only [Post.then]
    refine hK_5 _ ?_
    clear hK_5 K_5
    refine AWp.block ?_
    obtain ⟨x_10, hl_7, h2_8⟩ := bind_some hj_4
    obtain ⟨n_6, hl_7⟩ := iter_some hl_7
    refine AWp.loopI (fun i_138 : Nat × (Int × Ratio × (List Int)) => ⟨[(1, .d (.imm 1 (lenc (PD.int .i64) list1))), (2, .ptr 1000 0 0), (4, .ptr 1001 0 0), (5, .slc 1002 0 i_138.2.2.2.length), (11, .d (.imm 1 (lenc (PD.int .i64) list1))), (12, .d (.int .i64 (list1.length : Int))), (13, .d (.int .i64 i_138.2.1))], [(1000, ⟨77, 2, [.d (.agg [(.int .i64 m1.n), (.imm 4 (lenc Offer.pd m1.offers))])]⟩), (1001, ⟨26, 2, [.d (.agg [(.int .i64 i_138.2.2.1.Num), (.int .i64 i_138.2.2.1.Den)])]⟩), (1002, ⟨3, 1, dl (lenc (PD.int .i64) i_138.2.2.2)⟩)], [], none⟩) (fun i_138 => iterN (m_rate_market_follow_l1 m1 list1) i_138.1 i_138.2 = some x_10) (fun i_138 => i_138.1) (n_6, (0, (⟨1, 1⟩ : Ratio), [])) hl_7 (Sub.mk ⟨rfl, rfl, rfl, slcl (by simp only [List.length_append, List.length_set, List.length_replicate, List.length_cons, List.length_nil, Nat.zero_add]), rfl, rfl, rfl, trivial⟩ ⟨rfl, rfl, rfl, trivial⟩ ⟨trivial, rfl, rfl, rfl, trivial, trivial, trivial, trivial⟩ ⟨⟨trivial, trivial⟩, ⟨trivial, trivial⟩, row_refs _ _, trivial⟩ ⟨rfl, trivial, rfl⟩) ?_
    clear hl_7
    rintro ⟨n_6, v1, c2, L2⟩ hl_7
    try dsimp only at hl_7
    try dsimp only
    cases n_6 with
    | zero => cases hl_7
    | succ n_6 =>
      rw [iterN_succ] at hl_7
      obtain ⟨ob_11, hb_9, hl_7⟩ := bind_some hl_7
      unfold m_rate_market_follow_l1 at hb_9
      try dsimp only at hb_9
      refine AWp.seq fun K_12 hK_12 => AWp.reg ?_
      iterate 1 (refine AOps.consU fun K' hK' => ?_; simp (disch := omega) only [go_sem, reduceCtorEq, ↓reduceIte, Nat.reduceAdd, Nat.reduceMul, Nat.reduceLT, Nat.reduceLeDiff, Nat.reduceEqDiff, Nat.reduceBEq, Int.reduceToNat]; refine hK' _ ?_; clear hK' K')
      refine AOps.nil ?_
      simp only [Post.then]
      refine hK_12 _ ?_
      clear hK_12 K_12
      refine AWp.seq fun K_13 hK_13 => ?_
      refine AWp.cond (b := (decide (v1 < (list1.length : Int)))) (by rfl) (fun hb_14 => ?_) (fun hb_14 => ?_)
      · rw [hb_14, cond_true] at hb_9
        refine AWp.skip ?_
        simp only [Post.then, Post.inBlock, ↓reduceIte, Nat.reduceEqDiff]
        refine hK_13 _ ?_
        clear hK_13 K_13
        obtain ⟨o_15, hj_16, hb_9⟩ := bind_some hb_9
        refine AWp.seqI (fun i_136 : (Ratio × (List Int)) => ⟨[(1, .d (.imm 1 (lenc (PD.int .i64) list1))), (2, .ptr 1000 0 0), (4, .ptr 1001 0 0), (5, .slc 1002 0 i_136.2.length), (11, .d (.imm 1 (lenc (PD.int .i64) list1))), (12, .d (.int .i64 (list1.length : Int))), (13, .d (.int .i64 v1))], [(1000, ⟨77, 2, [.d (.agg [(.int .i64 m1.n), (.imm 4 (lenc Offer.pd m1.offers))])]⟩), (1001, ⟨26, 2, [.d (.agg [(.int .i64 i_136.1.Num), (.int .i64 i_136.1.Den)])]⟩), (1002, ⟨3, 1, dl (lenc (PD.int .i64) i_136.2)⟩)], [], none⟩) (fun i_136 => o_15 = (.inl i_136)) ?_ ?_
        · refine AWp.block ?_
          refine AWp.seq fun K_17 hK_17 => AWp.reg ?_
          obtain ⟨e1, hx_18, hj_16⟩ := bind_some hj_16
          obtain ⟨f_19, f_20, f_21, f_22⟩ := idx_some hx_18
          iterate 5 (refine AOps.consU fun K' hK' => ?_; simp (disch := omega) only [go_sem, f_21, reduceCtorEq, ↓reduceIte, Nat.reduceAdd, Nat.reduceMul, Nat.reduceLT, Nat.reduceLeDiff, Nat.reduceEqDiff, Nat.reduceBEq, Int.reduceToNat]; refine hK' _ ?_; clear hK' K')
          refine AOps.nil ?_
          simp only [Post.then]
          refine hK_17 _ ?_
          clear hK_17 K_17
          refine AWp.seq fun K_23 hK_23 => ?_
          refine AWp.seq fun K_24 hK_24 => AWp.draw mo [] (by trivial) ?_
          iterate 3 (refine DOps.consU fun K' hK' => ?_; simp (disch := omega) only [go_sem, reduceCtorEq, ↓reduceIte, Nat.reduceAdd, Nat.reduceMul, Nat.reduceLT, Nat.reduceLeDiff, Nat.reduceEqDiff, Nat.reduceBEq, Int.reduceToNat]; refine hK' _ _ ?_; clear hK' K'; simp only [List.nil_append, List.cons_append])
          rcases Bool.eq_false_or_eq_true (decide (e1 < 0)) with hg_25 | hg_25
          · rw [hg_25]
            rw [hg_25, cond_true] at hj_16
            iterate 29 (refine DOps.consU fun K' hK' => ?_; simp (disch := omega) only [go_sem, reduceCtorEq, ↓reduceIte, Nat.reduceAdd, Nat.reduceMul, Nat.reduceLT, Nat.reduceLeDiff, Nat.reduceEqDiff, Nat.reduceBEq, Int.reduceToNat]; refine hK' _ _ ?_; clear hK' K'; simp only [List.nil_append, List.cons_append])
            refine DOps.nil (by kernel_rfl) ?_
            simp only [Post.then]
            refine hK_24 _ ?_
            clear hK_24 K_24
            refine AWp.cond (b := true) (by rfl) (fun hb_26 => ?_) (fun hb_26 => ?_)
            · refine AWp.seq fun K_27 hK_27 => AWp.reg ?_
              iterate 4 (refine AOps.consU fun K' hK' => ?_; simp (disch := omega) only [go_sem, reduceCtorEq, ↓reduceIte, Nat.reduceAdd, Nat.reduceMul, Nat.reduceLT, Nat.reduceLeDiff, Nat.reduceEqDiff, Nat.reduceBEq, Int.reduceToNat]; refine hK' _ ?_; clear hK' K')
              refine AOps.nil ?_
              simp only [Post.then]
              refine hK_27 _ ?_
              clear hK_27 K_27
              refine AWp.sub (Sub.void 5 3 1 1003 (by rfl) (by rfl) (by decide) (by decide)) ?_
              simp only [eput, hput, reduceCtorEq, ↓reduceIte, Nat.reduceAdd, Nat.reduceMul, Nat.reduceLT, Nat.reduceLeDiff, Nat.reduceEqDiff, Nat.reduceBEq, Int.reduceToNat]
              refine AWp.ret ?_
              simp only [Post.then, Post.inBlock, Go.Pv.Fin, Go.Pv.FinG]
              rw [← Option.some.inj hj_16] at hb_9
              try dsimp only at hb_9
              rw [← Option.some.inj hb_9] at hl_7
              try dsimp only at hl_7
              rw [← Option.some.inj hl_7] at h2_8
              try dsimp only at h2_8
              rw [← Option.some.inj h2_8] at h
              try dsimp only at h
              rw [← Option.some.inj h]
              refine ⟨.tuple [.d (.agg [(.int .i64 c2.Num), (.int .i64 c2.Den)]), .slc 1003 0 0, .d (.bool false)], ?_, (by first | exact True.intro | rfl), .tuple [.d (.agg [(.int .i64 c2.Num), (.int .i64 c2.Den)]), .d (.imm 1 (lenc (PD.int .i64) [])), .d (.bool false)], ?_, ?_⟩
              · simp only [go_sem, Tryd.results64, List.length_append, List.length_set, List.length_replicate, reduceCtorEq, ↓reduceIte, Nat.reduceAdd, Nat.reduceMul, Nat.reduceLT, Nat.reduceLeDiff, Nat.reduceEqDiff, Nat.reduceBEq, Int.reduceToNat]
              · simp only [go_sem, lenc_nil, List.take_length, List.length_append, List.length_set, List.length_replicate, reduceCtorEq, ↓reduceIte, Nat.reduceAdd, Nat.reduceMul, Nat.reduceLT, Nat.reduceLeDiff, Nat.reduceEqDiff, Nat.reduceBEq, Int.reduceToNat]
              · (first | exact leV_refl _ | (simp only [go_sem, leV, leVL, leD, leDL, lenc_nil, leD_refl, leDL_refl, lstD_le, reduceCtorEq, ↓reduceIte, Nat.reduceAdd, Nat.reduceMul, Nat.reduceLT, Nat.reduceLeDiff, Nat.reduceEqDiff, Nat.reduceBEq, Int.reduceToNat]; done))
            · cases hb_26
          · rw [hg_25]
            rw [hg_25, cond_false] at hj_16
            iterate 7 (refine DOps.consU fun K' hK' => ?_; simp (disch := omega) only [go_sem, reduceCtorEq, ↓reduceIte, Nat.reduceAdd, Nat.reduceMul, Nat.reduceLT, Nat.reduceLeDiff, Nat.reduceEqDiff, Nat.reduceBEq, Int.reduceToNat]; refine hK' _ _ ?_; clear hK' K'; simp only [List.nil_append, List.cons_append])
            rcases Bool.eq_false_or_eq_true (decide ((m1.offers.length : Int) ≤ e1)) with hg_49 | hg_49
            · rw [hg_49]
              rw [hg_49, cond_true] at hj_16
              iterate 22 (refine DOps.consU fun K' hK' => ?_; simp (disch := omega) only [go_sem, reduceCtorEq, ↓reduceIte, Nat.reduceAdd, Nat.reduceMul, Nat.reduceLT, Nat.reduceLeDiff, Nat.reduceEqDiff, Nat.reduceBEq, Int.reduceToNat]; refine hK' _ _ ?_; clear hK' K'; simp only [List.nil_append, List.cons_append])
              refine DOps.nil (by kernel_rfl) ?_
              simp only [Post.then]
              refine hK_24 _ ?_
              clear hK_24 K_24
              refine AWp.cond (b := true) (by rfl) (fun hb_50 => ?_) (fun hb_50 => ?_)
              · refine AWp.seq fun K_51 hK_51 => AWp.reg ?_
                iterate 4 (refine AOps.consU fun K' hK' => ?_; simp (disch := omega) only [go_sem, reduceCtorEq, ↓reduceIte, Nat.reduceAdd, Nat.reduceMul, Nat.reduceLT, Nat.reduceLeDiff, Nat.reduceEqDiff, Nat.reduceBEq, Int.reduceToNat]; refine hK' _ ?_; clear hK' K')
                refine AOps.nil ?_
                simp only [Post.then]
                refine hK_51 _ ?_
                clear hK_51 K_51
                refine AWp.sub (Sub.void 5 3 1 1003 (by rfl) (by rfl) (by decide) (by decide)) ?_
                simp only [eput, hput, reduceCtorEq, ↓reduceIte, Nat.reduceAdd, Nat.reduceMul, Nat.reduceLT, Nat.reduceLeDiff, Nat.reduceEqDiff, Nat.reduceBEq, Int.reduceToNat]
                refine AWp.ret ?_
                simp only [Post.then, Post.inBlock, Go.Pv.Fin, Go.Pv.FinG]
                rw [← Option.some.inj hj_16] at hb_9
                try dsimp only at hb_9
                rw [← Option.some.inj hb_9] at hl_7
                try dsimp only at hl_7
                rw [← Option.some.inj hl_7] at h2_8
                try dsimp only at h2_8
                rw [← Option.some.inj h2_8] at h
                try dsimp only at h
                rw [← Option.some.inj h]
                refine ⟨.tuple [.d (.agg [(.int .i64 c2.Num), (.int .i64 c2.Den)]), .slc 1003 0 0, .d (.bool false)], ?_, (by first | exact True.intro | rfl), .tuple [.d (.agg [(.int .i64 c2.Num), (.int .i64 c2.Den)]), .d (.imm 1 (lenc (PD.int .i64) [])), .d (.bool false)], ?_, ?_⟩
                · simp only [go_sem, Tryd.results64, List.length_append, List.length_set, List.length_replicate, reduceCtorEq, ↓reduceIte, Nat.reduceAdd, Nat.reduceMul, Nat.reduceLT, Nat.reduceLeDiff, Nat.reduceEqDiff, Nat.reduceBEq, Int.reduceToNat]
                · simp only [go_sem, lenc_nil, List.take_length, List.length_append, List.length_set, List.length_replicate, reduceCtorEq, ↓reduceIte, Nat.reduceAdd, Nat.reduceMul, Nat.reduceLT, Nat.reduceLeDiff, Nat.reduceEqDiff, Nat.reduceBEq, Int.reduceToNat]
                · (first | exact leV_refl _ | (simp only [go_sem, leV, leVL, leD, leDL, lenc_nil, leD_refl, leDL_refl, lstD_le, reduceCtorEq, ↓reduceIte, Nat.reduceAdd, Nat.reduceMul, Nat.reduceLT, Nat.reduceLeDiff, Nat.reduceEqDiff, Nat.reduceBEq, Int.reduceToNat]; done))
              · cases hb_50
            · rw [hg_49]
              rw [hg_49, cond_false] at hj_16
              iterate 3 (refine DOps.consU fun K' hK' => ?_; simp (disch := omega) only [go_sem, reduceCtorEq, ↓reduceIte, Nat.reduceAdd, Nat.reduceMul, Nat.reduceLT, Nat.reduceLeDiff, Nat.reduceEqDiff, Nat.reduceBEq, Int.reduceToNat]; refine hK' _ _ ?_; clear hK' K'; simp only [List.nil_append, List.cons_append])
              rcases Bool.eq_false_or_eq_true (decide (0 < v1)) with hg_73 | hg_73
              · rw [hg_73]
                rw [hg_73, cond_true] at hj_16
                obtain ⟨e4, hx_74, hj_16⟩ := bind_some hj_16
                obtain ⟨f_75, f_76, f_77, f_78⟩ := idx_some hx_74
                obtain ⟨e5, hx_79, hj_16⟩ := bind_some hj_16
                obtain ⟨f_80, f_81, f_82, f_83⟩ := idx_some hx_79
                obtain ⟨e6, hx_84, hj_16⟩ := bind_some hj_16
                obtain ⟨f_85, f_86, f_87, f_88⟩ := idx_some hx_84
                iterate 19 (refine DOps.consU fun K' hK' => ?_; simp (disch := omega) only [go_sem, f_77, f_82, f_87, reduceCtorEq, ↓reduceIte, Nat.reduceAdd, Nat.reduceMul, Nat.reduceLT, Nat.reduceLeDiff, Nat.reduceEqDiff, Nat.reduceBEq, Int.reduceToNat]; refine hK' _ _ ?_; clear hK' K'; simp only [List.nil_append, List.cons_append])
                refine DOps.nil (by kernel_rfl) ?_
                simp only [Post.then]
                refine hK_24 _ ?_
                clear hK_24 K_24
                refine AWp.cond (b := (decide (¬e4.From = e6.To))) (by rfl) (fun hb_89 => ?_) (fun hb_89 => ?_)
                · rw [hb_89, cond_true] at hj_16
                  refine AWp.seq fun K_90 hK_90 => AWp.reg ?_
                  iterate 4 (refine AOps.consU fun K' hK' => ?_; simp (disch := omega) only [go_sem, reduceCtorEq, ↓reduceIte, Nat.reduceAdd, Nat.reduceMul, Nat.reduceLT, Nat.reduceLeDiff, Nat.reduceEqDiff, Nat.reduceBEq, Int.reduceToNat]; refine hK' _ ?_; clear hK' K')
                  refine AOps.nil ?_
                  simp only [Post.then]
                  refine hK_90 _ ?_
                  clear hK_90 K_90
                  refine AWp.sub (Sub.void 5 3 1 1003 (by rfl) (by rfl) (by decide) (by decide)) ?_
                  simp only [eput, hput, reduceCtorEq, ↓reduceIte, Nat.reduceAdd, Nat.reduceMul, Nat.reduceLT, Nat.reduceLeDiff, Nat.reduceEqDiff, Nat.reduceBEq, Int.reduceToNat]
                  refine AWp.ret ?_
                  simp only [Post.then, Post.inBlock, Go.Pv.Fin, Go.Pv.FinG]
                  rw [← Option.some.inj hj_16] at hb_9
                  try dsimp only at hb_9
                  rw [← Option.some.inj hb_9] at hl_7
                  try dsimp only at hl_7
                  rw [← Option.some.inj hl_7] at h2_8
                  try dsimp only at h2_8
                  rw [← Option.some.inj h2_8] at h
                  try dsimp only at h
                  rw [← Option.some.inj h]
                  refine ⟨.tuple [.d (.agg [(.int .i64 c2.Num), (.int .i64 c2.Den)]), .slc 1003 0 0, .d (.bool false)], ?_, (by first | exact True.intro | rfl), .tuple [.d (.agg [(.int .i64 c2.Num), (.int .i64 c2.Den)]), .d (.imm 1 (lenc (PD.int .i64) [])), .d (.bool false)], ?_, ?_⟩
                  · simp only [go_sem, Tryd.results64, List.length_append, List.length_set, List.length_replicate, reduceCtorEq, ↓reduceIte, Nat.reduceAdd, Nat.reduceMul, Nat.reduceLT, Nat.reduceLeDiff, Nat.reduceEqDiff, Nat.reduceBEq, Int.reduceToNat]
                  · simp only [go_sem, lenc_nil, List.take_length, List.length_append, List.length_set, List.length_replicate, reduceCtorEq, ↓reduceIte, Nat.reduceAdd, Nat.reduceMul, Nat.reduceLT, Nat.reduceLeDiff, Nat.reduceEqDiff, Nat.reduceBEq, Int.reduceToNat]
                  · (first | exact leV_refl _ | (simp only [go_sem, leV, leVL, leD, leDL, lenc_nil, leD_refl, leDL_refl, lstD_le, reduceCtorEq, ↓reduceIte, Nat.reduceAdd, Nat.reduceMul, Nat.reduceLT, Nat.reduceLeDiff, Nat.reduceEqDiff, Nat.reduceBEq, Int.reduceToNat]; done))
                · rw [hb_89, cond_false] at hj_16
                  refine AWp.skip ?_
                  simp only [Post.then, Post.inBlock, ↓reduceIte, Nat.reduceEqDiff]
                  refine hK_23 _ ?_
                  clear hK_23 K_23
                  refine AWp.seq fun K_91 hK_91 => AWp.reg ?_
                  obtain ⟨e7, hx_92, hj_16⟩ := bind_some hj_16
                  obtain ⟨f_93, f_94, f_95, f_96⟩ := idx_some hx_92
                  iterate 7 (refine AOps.consU fun K' hK' => ?_; simp (disch := omega) only [go_sem, f_95, reduceCtorEq, ↓reduceIte, Nat.reduceAdd, Nat.reduceMul, Nat.reduceLT, Nat.reduceLeDiff, Nat.reduceEqDiff, Nat.reduceBEq, Int.reduceToNat]; refine hK' _ ?_; clear hK' K')
                  refine AOps.nil ?_
                  simp only [Post.then]
                  refine hK_91 _ ?_
                  clear hK_91 K_91
                  obtain ⟨o_97, hj_98, hj_16⟩ := bind_some hj_16
                  refine AWp.seqI (fun i_110 : (List Int) => ⟨[(1, .d (.imm 1 (lenc (PD.int .i64) list1))), (2, .ptr 1000 0 0), (4, .ptr 1001 0 0), (5, .slc 1002 0 i_110.length), (7, .d (.int .i64 v1)), (9, .ptr 1003 0 0), (11, .d (.imm 1 (lenc (PD.int .i64) list1))), (12, .d (.int .i64 (list1.length : Int))), (13, .d (.int .i64 v1)), (21, .d (.int .i64 e1)), (22, .ptr 1000 0 1), (23, .d (.imm 4 (lenc Offer.pd m1.offers))), (24, .d (.int .i64 (m1.offers.length : Int))), (25, .d (.bool false)), (28, .d (.int .i64 v1)), (29, .d (.bool true)), (30, .d (.bool true)), (31, .ptr 1000 0 1), (32, .d (.imm 4 (lenc Offer.pd m1.offers))), (33, .d (.int .i64 e1)), (34, .dptr 4 (lenc Offer.pd m1.offers) ((e1).toNat) 0), (35, .dptr 4 (lenc Offer.pd m1.offers) ((e1).toNat) 0), (36, .d (.int .i64 e4.From)), (37, .ptr 1000 0 1), (38, .d (.imm 4 (lenc Offer.pd m1.offers))), (39, .d (.imm 1 (lenc (PD.int .i64) list1))), (40, .d (.int .i64 v1)), (41, .d (.int .i64 (IntKind.i64.wrap (v1 - 1)))), (42, .dptr 1 (lenc (PD.int .i64) list1) (((IntKind.i64.wrap (v1 - 1))).toNat) 0), (43, .d (.int .i64 e5)), (44, .dptr 4 (lenc Offer.pd m1.offers) ((e5).toNat) 0), (45, .dptr 4 (lenc Offer.pd m1.offers) ((e5).toNat) 1), (46, .d (.int .i64 e6.To)), (47, .d (.bool (decide (¬e4.From = e6.To)))), (48, .d (.bool (decide (¬e4.From = e6.To))))], [(1000, ⟨77, 2, [.d (.agg [(.int .i64 m1.n), (.imm 4 (lenc Offer.pd m1.offers))])]⟩), (1001, ⟨26, 2, [.d (.agg [(.int .i64 c2.Num), (.int .i64 c2.Den)])]⟩), (1002, ⟨3, 1, dl (lenc (PD.int .i64) i_110)⟩), (1003, ⟨43, 4, [.d (.agg [(.int .i64 e7.From), (.int .i64 e7.To), (.int .i64 e7.Num), (.int .i64 e7.Den)])]⟩)], [], none⟩) (fun i_110 => o_97 = i_110) ?_ ?_
                  · refine AWp.seq fun K_99 hK_99 => AWp.reg ?_
                    iterate 2 (refine AOps.consU fun K' hK' => ?_; simp (disch := omega) only [go_sem, reduceCtorEq, ↓reduceIte, Nat.reduceAdd, Nat.reduceMul, Nat.reduceLT, Nat.reduceLeDiff, Nat.reduceEqDiff, Nat.reduceBEq, Int.reduceToNat]; refine hK' _ ?_; clear hK' K')
                    refine AOps.nil ?_
                    simp only [Post.then]
                    refine hK_99 _ ?_
                    clear hK_99 K_99
                    refine AWp.cond (b := (decide (v1 = 0))) (by rfl) (fun hb_100 => ?_) (fun hb_100 => ?_)
                    · rw [hb_100, cond_true] at hj_98
                      refine AWp.reg ?_
                      iterate 3 (refine AOps.consU fun K' hK' => ?_; simp (disch := omega) only [go_sem, reduceCtorEq, ↓reduceIte, Nat.reduceAdd, Nat.reduceMul, Nat.reduceLT, Nat.reduceLeDiff, Nat.reduceEqDiff, Nat.reduceBEq, Int.reduceToNat]; refine hK' _ ?_; clear hK' K')
                      refine AOps.consL fun K' hK' => ?_; simp (disch := omega) only [go_sem, reduceCtorEq, ↓reduceIte, Nat.reduceAdd, Nat.reduceMul, Nat.reduceLT, Nat.reduceLeDiff, Nat.reduceEqDiff, Nat.reduceBEq, Int.reduceToNat]; refine hK' _ ?_; clear hK' K'
                      obtain ⟨hg_102, hj_98⟩ := guardO_some hj_98
                      iterate 2 (refine AOps.consU fun K' hK' => ?_; simp (disch := omega) only [go_sem, reduceCtorEq, ↓reduceIte, Nat.reduceAdd, Nat.reduceMul, Nat.reduceLT, Nat.reduceLeDiff, Nat.reduceEqDiff, Nat.reduceBEq, Int.reduceToNat]; refine hK' _ ?_; clear hK' K')
                      refine AOps.nil ?_
                      simp only [Post.then, Post.inBlock, ↓reduceIte, Nat.reduceEqDiff]
                      exact ⟨(L2 ++ [e7.From]), (Option.some.inj hj_98).symm, (Sub.mk ⟨rfl, rfl, rfl, slcl (by simp only [List.length_append, List.length_set, List.length_replicate, List.length_cons, List.length_nil, Nat.zero_add]), rfl, rfl, rfl, rfl, rfl, rfl, rfl, rfl, rfl, rfl, rfl, rfl, rfl, rfl, rfl, rfl, rfl, rfl, rfl, rfl, rfl, rfl, rfl, rfl, rfl, rfl, rfl, rfl, rfl, rfl, rfl, trivial⟩ ⟨rfl, rfl, rfl, rfl, trivial⟩ ⟨trivial, rfl, rfl, rfl, trivial, rfl, trivial, trivial, trivial, trivial, rfl, trivial, trivial, trivial, trivial, trivial, trivial, rfl, trivial, trivial, trivial, trivial, trivial, rfl, trivial, trivial, trivial, trivial, trivial, trivial, trivial, trivial, trivial, trivial, trivial, trivial⟩ ⟨⟨trivial, trivial⟩, ⟨trivial, trivial⟩, row_refs _ _, ⟨trivial, trivial⟩, trivial⟩ ⟨rfl, trivial, rfl⟩)⟩
                    · rw [hb_100, cond_false] at hj_98
                      refine AWp.skip ?_
                      simp only [Post.then, Post.inBlock, ↓reduceIte, Nat.reduceEqDiff]
                      exact ⟨L2, (Option.some.inj hj_98).symm, (Sub.mk ⟨rfl, rfl, rfl, slcl (by simp only [List.length_append, List.length_set, List.length_replicate, List.length_cons, List.length_nil, Nat.zero_add]), rfl, rfl, rfl, rfl, rfl, rfl, rfl, rfl, rfl, rfl, rfl, rfl, rfl, rfl, rfl, rfl, rfl, rfl, rfl, rfl, rfl, rfl, rfl, rfl, rfl, rfl, rfl, rfl, rfl, rfl, rfl, trivial⟩ ⟨rfl, rfl, rfl, rfl, trivial⟩ ⟨trivial, rfl, rfl, rfl, trivial, rfl, trivial, trivial, trivial, trivial, rfl, trivial, trivial, trivial, trivial, trivial, trivial, rfl, trivial, trivial, trivial, trivial, trivial, rfl, trivial, trivial, trivial, trivial, trivial, trivial, trivial, trivial, trivial, trivial, trivial, trivial⟩ ⟨⟨trivial, trivial⟩, ⟨trivial, trivial⟩, row_refs _ _, ⟨trivial, trivial⟩, trivial⟩ ⟨rfl, trivial, rfl⟩)⟩
                  · rintro L6 hx_111
                    rw [hx_111] at hj_16
                    try dsimp only at hj_16
                    try dsimp only
                    refine AWp.seq fun K_103 hK_103 => AWp.reg ?_
                    iterate 3 (refine AOps.consU fun K' hK' => ?_; simp (disch := omega) only [go_sem, reduceCtorEq, ↓reduceIte, Nat.reduceAdd, Nat.reduceMul, Nat.reduceLT, Nat.reduceLeDiff, Nat.reduceEqDiff, Nat.reduceBEq, Int.reduceToNat]; refine hK' _ ?_; clear hK' K')
                    refine AOps.consL fun K' hK' => ?_; simp (disch := omega) only [go_sem, reduceCtorEq, ↓reduceIte, Nat.reduceAdd, Nat.reduceMul, Nat.reduceLT, Nat.reduceLeDiff, Nat.reduceEqDiff, Nat.reduceBEq, Int.reduceToNat]; refine hK' _ ?_; clear hK' K'
                    obtain ⟨hg_104, hj_16⟩ := guardO_some hj_16
                    iterate 2 (refine AOps.consU fun K' hK' => ?_; simp (disch := omega) only [go_sem, reduceCtorEq, ↓reduceIte, Nat.reduceAdd, Nat.reduceMul, Nat.reduceLT, Nat.reduceLeDiff, Nat.reduceEqDiff, Nat.reduceBEq, Int.reduceToNat]; refine hK' _ ?_; clear hK' K')
                    refine AOps.nil ?_
                    simp only [Post.then]
                    refine hK_103 _ ?_
                    clear hK_103 K_103
                    refine AWp.seq fun K_105 hK_105 => AWp.reg ?_
                    iterate 4 (refine AOps.consU fun K' hK' => ?_; simp (disch := omega) only [go_sem, reduceCtorEq, ↓reduceIte, Nat.reduceAdd, Nat.reduceMul, Nat.reduceLT, Nat.reduceLeDiff, Nat.reduceEqDiff, Nat.reduceBEq, Int.reduceToNat]; refine hK' _ ?_; clear hK' K')
                    refine AOps.nil ?_
                    simp only [Post.then]
                    refine hK_105 _ ?_
                    clear hK_105 K_105
                    refine AWp.cond (b := (decide (v1 ≤ m1.n))) (by rfl) (fun hb_106 => ?_) (fun hb_106 => ?_)
                    · rw [hb_106, cond_true] at hj_16
                      refine AWp.draw mo [] (by trivial) ?_
                      iterate 5 (refine DOps.consU fun K' hK' => ?_; simp (disch := omega) only [go_sem, reduceCtorEq, ↓reduceIte, Nat.reduceAdd, Nat.reduceMul, Nat.reduceLT, Nat.reduceLeDiff, Nat.reduceEqDiff, Nat.reduceBEq, Int.reduceToNat]; refine hK' _ _ ?_; clear hK' K'; simp only [List.nil_append, List.cons_append])
                      obtain ⟨r5, hx_108, hj_16⟩ := bind_some hj_16
                      refine DOps.consC fun K' hK' => ?_; simp (disch := omega) only [go_sem, reduceCtorEq, ↓reduceIte, Nat.reduceAdd, Nat.reduceMul, Nat.reduceLT, Nat.reduceLeDiff, Nat.reduceEqDiff, Nat.reduceBEq, Int.reduceToNat]; refine OpX.call (by rfl) (by rfl) (by kernel_rfl) (m_rate_ratio_ok e7.Num e7.Den _ hx_108) (by exact ⟨rfl, rfl, trivial⟩) (by simp only [go_sem, reduceCtorEq, ↓reduceIte, Nat.reduceAdd, Nat.reduceMul, Nat.reduceLT, Nat.reduceLeDiff, Nat.reduceEqDiff, Nat.reduceBEq, Int.reduceToNat]) (by simp only [go_sem]) (by simp only [go_sem, or_true, true_or, reduceCtorEq, ↓reduceIte, Nat.reduceAdd, Nat.reduceMul, Nat.reduceLT, Nat.reduceLeDiff, Nat.reduceEqDiff, Nat.reduceBEq, Int.reduceToNat]) ?_; simp only [go_sem, reduceCtorEq, ↓reduceIte, Nat.reduceAdd, Nat.reduceMul, Nat.reduceLT, Nat.reduceLeDiff, Nat.reduceEqDiff, Nat.reduceBEq, Int.reduceToNat]; refine hK' _ _ ?_; clear hK' K'; simp only [List.nil_append, List.cons_append]
                      obtain ⟨r6, hx_109, hj_16⟩ := bind_some hj_16
                      refine DOps.consC fun K' hK' => ?_; simp (disch := omega) only [go_sem, reduceCtorEq, ↓reduceIte, Nat.reduceAdd, Nat.reduceMul, Nat.reduceLT, Nat.reduceLeDiff, Nat.reduceEqDiff, Nat.reduceBEq, Int.reduceToNat]; refine OpX.call (by rfl) (by rfl) (by kernel_rfl) (m_rate_times_ok c2 r5 _ hx_109) (by exact ⟨rfl, rfl, trivial⟩) (by simp only [go_sem, reduceCtorEq, ↓reduceIte, Nat.reduceAdd, Nat.reduceMul, Nat.reduceLT, Nat.reduceLeDiff, Nat.reduceEqDiff, Nat.reduceBEq, Int.reduceToNat]) (by simp only [go_sem]) (by simp only [go_sem, or_true, true_or, reduceCtorEq, ↓reduceIte, Nat.reduceAdd, Nat.reduceMul, Nat.reduceLT, Nat.reduceLeDiff, Nat.reduceEqDiff, Nat.reduceBEq, Int.reduceToNat]) ?_; simp only [go_sem, reduceCtorEq, ↓reduceIte, Nat.reduceAdd, Nat.reduceMul, Nat.reduceLT, Nat.reduceLeDiff, Nat.reduceEqDiff, Nat.reduceBEq, Int.reduceToNat]; refine hK' _ _ ?_; clear hK' K'; simp only [List.nil_append, List.cons_append]
                      iterate 1 (refine DOps.consU fun K' hK' => ?_; simp (disch := omega) only [go_sem, reduceCtorEq, ↓reduceIte, Nat.reduceAdd, Nat.reduceMul, Nat.reduceLT, Nat.reduceLeDiff, Nat.reduceEqDiff, Nat.reduceBEq, Int.reduceToNat]; refine hK' _ _ ?_; clear hK' K'; simp only [List.nil_append, List.cons_append])
                      refine DOps.nil (by kernel_rfl) ?_
                      simp only [Post.then, Post.inBlock, ↓reduceIte, Nat.reduceEqDiff]
                      exact ⟨(r6, (L6 ++ [e7.To])), (Option.some.inj hj_16).symm, (Sub.mk ⟨rfl, rfl, rfl, slcl (by simp only [List.length_append, List.length_set, List.length_replicate, List.length_cons, List.length_nil, Nat.zero_add]), rfl, rfl, rfl, trivial⟩ ⟨rfl, rfl, rfl, trivial⟩ ⟨trivial, rfl, rfl, rfl, trivial, trivial, trivial, trivial⟩ ⟨⟨trivial, trivial⟩, ⟨trivial, trivial⟩, row_refs _ _, trivial⟩ ⟨rfl, trivial, rfl⟩)⟩
                    · rw [hb_106, cond_false] at hj_16
                      refine AWp.skip ?_
                      simp only [Post.then, Post.inBlock, ↓reduceIte, Nat.reduceEqDiff]
                      exact ⟨(c2, (L6 ++ [e7.To])), (Option.some.inj hj_16).symm, (Sub.mk ⟨rfl, rfl, rfl, slcl (by simp only [List.length_append, List.length_set, List.length_replicate, List.length_cons, List.length_nil, Nat.zero_add]), rfl, rfl, rfl, trivial⟩ ⟨rfl, rfl, rfl, trivial⟩ ⟨trivial, rfl, rfl, rfl, trivial, trivial, trivial, trivial⟩ ⟨⟨trivial, trivial⟩, ⟨trivial, trivial⟩, row_refs _ _, trivial⟩ ⟨rfl, trivial, rfl⟩)⟩
              · rw [hg_73]
                rw [hg_73, cond_false] at hj_16
                iterate 19 (refine DOps.consU fun K' hK' => ?_; simp (disch := omega) only [go_sem, reduceCtorEq, ↓reduceIte, Nat.reduceAdd, Nat.reduceMul, Nat.reduceLT, Nat.reduceLeDiff, Nat.reduceEqDiff, Nat.reduceBEq, Int.reduceToNat]; refine hK' _ _ ?_; clear hK' K'; simp only [List.nil_append, List.cons_append])
                refine DOps.nil (by kernel_rfl) ?_
                simp only [Post.then]
                refine hK_24 _ ?_
                clear hK_24 K_24
                refine AWp.cond (b := false) (by rfl) (fun hb_112 => ?_) (fun hb_112 => ?_)
                · cases hb_112
                · refine AWp.skip ?_
                  simp only [Post.then, Post.inBlock, ↓reduceIte, Nat.reduceEqDiff]
                  refine hK_23 _ ?_
                  clear hK_23 K_23
                  refine AWp.seq fun K_114 hK_114 => AWp.reg ?_
                  obtain ⟨e8, hx_115, hj_16⟩ := bind_some hj_16
                  obtain ⟨f_116, f_117, f_118, f_119⟩ := idx_some hx_115
                  iterate 7 (refine AOps.consU fun K' hK' => ?_; simp (disch := omega) only [go_sem, f_118, reduceCtorEq, ↓reduceIte, Nat.reduceAdd, Nat.reduceMul, Nat.reduceLT, Nat.reduceLeDiff, Nat.reduceEqDiff, Nat.reduceBEq, Int.reduceToNat]; refine hK' _ ?_; clear hK' K')
                  refine AOps.nil ?_
                  simp only [Post.then]
                  refine hK_114 _ ?_
                  clear hK_114 K_114
                  obtain ⟨o_120, hj_121, hj_16⟩ := bind_some hj_16
                  refine AWp.seqI (fun i_133 : (List Int) => ⟨[(1, .d (.imm 1 (lenc (PD.int .i64) list1))), (2, .ptr 1000 0 0), (4, .ptr 1001 0 0), (5, .slc 1002 0 i_133.length), (7, .d (.int .i64 v1)), (9, .ptr 1003 0 0), (11, .d (.imm 1 (lenc (PD.int .i64) list1))), (12, .d (.int .i64 (list1.length : Int))), (13, .d (.int .i64 v1)), (21, .d (.int .i64 e1)), (22, .ptr 1000 0 1), (23, .d (.imm 4 (lenc Offer.pd m1.offers))), (24, .d (.int .i64 (m1.offers.length : Int))), (25, .d (.bool false)), (28, .d (.int .i64 v1)), (29, .d (.bool false)), (30, .d (.bool false)), (31, .tuple []), (32, .tuple []), (33, .tuple []), (34, .tuple []), (35, .tuple []), (36, .tuple []), (37, .tuple []), (38, .tuple []), (39, .tuple []), (40, .tuple []), (41, .tuple []), (42, .tuple []), (43, .tuple []), (44, .tuple []), (45, .tuple []), (46, .tuple []), (47, .tuple []), (48, .d (.bool false))], [(1000, ⟨77, 2, [.d (.agg [(.int .i64 m1.n), (.imm 4 (lenc Offer.pd m1.offers))])]⟩), (1001, ⟨26, 2, [.d (.agg [(.int .i64 c2.Num), (.int .i64 c2.Den)])]⟩), (1002, ⟨3, 1, dl (lenc (PD.int .i64) i_133)⟩), (1003, ⟨43, 4, [.d (.agg [(.int .i64 e8.From), (.int .i64 e8.To), (.int .i64 e8.Num), (.int .i64 e8.Den)])]⟩)], [], none⟩) (fun i_133 => o_120 = i_133) ?_ ?_
                  · refine AWp.seq fun K_122 hK_122 => AWp.reg ?_
                    iterate 2 (refine AOps.consU fun K' hK' => ?_; simp (disch := omega) only [go_sem, reduceCtorEq, ↓reduceIte, Nat.reduceAdd, Nat.reduceMul, Nat.reduceLT, Nat.reduceLeDiff, Nat.reduceEqDiff, Nat.reduceBEq, Int.reduceToNat]; refine hK' _ ?_; clear hK' K')
                    refine AOps.nil ?_
                    simp only [Post.then]
                    refine hK_122 _ ?_
                    clear hK_122 K_122
                    refine AWp.cond (b := (decide (v1 = 0))) (by rfl) (fun hb_123 => ?_) (fun hb_123 => ?_)
                    · rw [hb_123, cond_true] at hj_121
                      refine AWp.reg ?_
                      iterate 3 (refine AOps.consU fun K' hK' => ?_; simp (disch := omega) only [go_sem, reduceCtorEq, ↓reduceIte, Nat.reduceAdd, Nat.reduceMul, Nat.reduceLT, Nat.reduceLeDiff, Nat.reduceEqDiff, Nat.reduceBEq, Int.reduceToNat]; refine hK' _ ?_; clear hK' K')
                      refine AOps.consL fun K' hK' => ?_; simp (disch := omega) only [go_sem, reduceCtorEq, ↓reduceIte, Nat.reduceAdd, Nat.reduceMul, Nat.reduceLT, Nat.reduceLeDiff, Nat.reduceEqDiff, Nat.reduceBEq, Int.reduceToNat]; refine hK' _ ?_; clear hK' K'
                      obtain ⟨hg_125, hj_121⟩ := guardO_some hj_121
                      iterate 2 (refine AOps.consU fun K' hK' => ?_; simp (disch := omega) only [go_sem, reduceCtorEq, ↓reduceIte, Nat.reduceAdd, Nat.reduceMul, Nat.reduceLT, Nat.reduceLeDiff, Nat.reduceEqDiff, Nat.reduceBEq, Int.reduceToNat]; refine hK' _ ?_; clear hK' K')
                      refine AOps.nil ?_
                      simp only [Post.then, Post.inBlock, ↓reduceIte, Nat.reduceEqDiff]
                      exact ⟨(L2 ++ [e8.From]), (Option.some.inj hj_121).symm, (Sub.mk ⟨rfl, rfl, rfl, slcl (by simp only [List.length_append, List.length_set, List.length_replicate, List.length_cons, List.length_nil, Nat.zero_add]), rfl, rfl, rfl, rfl, rfl, rfl, rfl, rfl, rfl, rfl, rfl, rfl, rfl, rfl, rfl, rfl, rfl, rfl, rfl, rfl, rfl, rfl, rfl, rfl, rfl, rfl, rfl, rfl, rfl, rfl, rfl, trivial⟩ ⟨rfl, rfl, rfl, rfl, trivial⟩ ⟨trivial, rfl, rfl, rfl, trivial, rfl, trivial, trivial, trivial, trivial, rfl, trivial, trivial, trivial, trivial, trivial, trivial, trivial, trivial, trivial, trivial, trivial, trivial, trivial, trivial, trivial, trivial, trivial, trivial, trivial, trivial, trivial, trivial, trivial, trivial, trivial⟩ ⟨⟨trivial, trivial⟩, ⟨trivial, trivial⟩, row_refs _ _, ⟨trivial, trivial⟩, trivial⟩ ⟨rfl, trivial, rfl⟩)⟩
                    · rw [hb_123, cond_false] at hj_121
                      refine AWp.skip ?_
                      simp only [Post.then, Post.inBlock, ↓reduceIte, Nat.reduceEqDiff]
                      exact ⟨L2, (Option.some.inj hj_121).symm, (Sub.mk ⟨rfl, rfl, rfl, slcl (by simp only [List.length_append, List.length_set, List.length_replicate, List.length_cons, List.length_nil, Nat.zero_add]), rfl, rfl, rfl, rfl, rfl, rfl, rfl, rfl, rfl, rfl, rfl, rfl, rfl, rfl, rfl, rfl, rfl, rfl, rfl, rfl, rfl, rfl, rfl, rfl, rfl, rfl, rfl, rfl, rfl, rfl, rfl, trivial⟩ ⟨rfl, rfl, rfl, rfl, trivial⟩ ⟨trivial, rfl, rfl, rfl, trivial, rfl, trivial, trivial, trivial, trivial, rfl, trivial, trivial, trivial, trivial, trivial, trivial, trivial, trivial, trivial, trivial, trivial, trivial, trivial, trivial, trivial, trivial, trivial, trivial, trivial, trivial, trivial, trivial, trivial, trivial, trivial⟩ ⟨⟨trivial, trivial⟩, ⟨trivial, trivial⟩, row_refs _ _, ⟨trivial, trivial⟩, trivial⟩ ⟨rfl, trivial, rfl⟩)⟩
                  · rintro L7 hx_134
                    rw [hx_134] at hj_16
                    try dsimp only at hj_16
                    try dsimp only
                    refine AWp.seq fun K_126 hK_126 => AWp.reg ?_
                    iterate 3 (refine AOps.consU fun K' hK' => ?_; simp (disch := omega) only [go_sem, reduceCtorEq, ↓reduceIte, Nat.reduceAdd, Nat.reduceMul, Nat.reduceLT, Nat.reduceLeDiff, Nat.reduceEqDiff, Nat.reduceBEq, Int.reduceToNat]; refine hK' _ ?_; clear hK' K')
                    refine AOps.consL fun K' hK' => ?_; simp (disch := omega) only [go_sem, reduceCtorEq, ↓reduceIte, Nat.reduceAdd, Nat.reduceMul, Nat.reduceLT, Nat.reduceLeDiff, Nat.reduceEqDiff, Nat.reduceBEq, Int.reduceToNat]; refine hK' _ ?_; clear hK' K'
                    obtain ⟨hg_127, hj_16⟩ := guardO_some hj_16
                    iterate 2 (refine AOps.consU fun K' hK' => ?_; simp (disch := omega) only [go_sem, reduceCtorEq, ↓reduceIte, Nat.reduceAdd, Nat.reduceMul, Nat.reduceLT, Nat.reduceLeDiff, Nat.reduceEqDiff, Nat.reduceBEq, Int.reduceToNat]; refine hK' _ ?_; clear hK' K')
                    refine AOps.nil ?_
                    simp only [Post.then]
                    refine hK_126 _ ?_
                    clear hK_126 K_126
                    refine AWp.seq fun K_128 hK_128 => AWp.reg ?_
                    iterate 4 (refine AOps.consU fun K' hK' => ?_; simp (disch := omega) only [go_sem, reduceCtorEq, ↓reduceIte, Nat.reduceAdd, Nat.reduceMul, Nat.reduceLT, Nat.reduceLeDiff, Nat.reduceEqDiff, Nat.reduceBEq, Int.reduceToNat]; refine hK' _ ?_; clear hK' K')
                    refine AOps.nil ?_
                    simp only [Post.then]
                    refine hK_128 _ ?_
                    clear hK_128 K_128
                    refine AWp.cond (b := (decide (v1 ≤ m1.n))) (by rfl) (fun hb_129 => ?_) (fun hb_129 => ?_)
                    · rw [hb_129, cond_true] at hj_16
                      refine AWp.draw mo [] (by trivial) ?_
                      iterate 5 (refine DOps.consU fun K' hK' => ?_; simp (disch := omega) only [go_sem, reduceCtorEq, ↓reduceIte, Nat.reduceAdd, Nat.reduceMul, Nat.reduceLT, Nat.reduceLeDiff, Nat.reduceEqDiff, Nat.reduceBEq, Int.reduceToNat]; refine hK' _ _ ?_; clear hK' K'; simp only [List.nil_append, List.cons_append])
                      obtain ⟨r7, hx_131, hj_16⟩ := bind_some hj_16
                      refine DOps.consC fun K' hK' => ?_; simp (disch := omega) only [go_sem, reduceCtorEq, ↓reduceIte, Nat.reduceAdd, Nat.reduceMul, Nat.reduceLT, Nat.reduceLeDiff, Nat.reduceEqDiff, Nat.reduceBEq, Int.reduceToNat]; refine OpX.call (by rfl) (by rfl) (by kernel_rfl) (m_rate_ratio_ok e8.Num e8.Den _ hx_131) (by exact ⟨rfl, rfl, trivial⟩) (by simp only [go_sem, reduceCtorEq, ↓reduceIte, Nat.reduceAdd, Nat.reduceMul, Nat.reduceLT, Nat.reduceLeDiff, Nat.reduceEqDiff, Nat.reduceBEq, Int.reduceToNat]) (by simp only [go_sem]) (by simp only [go_sem, or_true, true_or, reduceCtorEq, ↓reduceIte, Nat.reduceAdd, Nat.reduceMul, Nat.reduceLT, Nat.reduceLeDiff, Nat.reduceEqDiff, Nat.reduceBEq, Int.reduceToNat]) ?_; simp only [go_sem, reduceCtorEq, ↓reduceIte, Nat.reduceAdd, Nat.reduceMul, Nat.reduceLT, Nat.reduceLeDiff, Nat.reduceEqDiff, Nat.reduceBEq, Int.reduceToNat]; refine hK' _ _ ?_; clear hK' K'; simp only [List.nil_append, List.cons_append]
                      obtain ⟨r8, hx_132, hj_16⟩ := bind_some hj_16
                      refine DOps.consC fun K' hK' => ?_; simp (disch := omega) only [go_sem, reduceCtorEq, ↓reduceIte, Nat.reduceAdd, Nat.reduceMul, Nat.reduceLT, Nat.reduceLeDiff, Nat.reduceEqDiff, Nat.reduceBEq, Int.reduceToNat]; refine OpX.call (by rfl) (by rfl) (by kernel_rfl) (m_rate_times_ok c2 r7 _ hx_132) (by exact ⟨rfl, rfl, trivial⟩) (by simp only [go_sem, reduceCtorEq, ↓reduceIte, Nat.reduceAdd, Nat.reduceMul, Nat.reduceLT, Nat.reduceLeDiff, Nat.reduceEqDiff, Nat.reduceBEq, Int.reduceToNat]) (by simp only [go_sem]) (by simp only [go_sem, or_true, true_or, reduceCtorEq, ↓reduceIte, Nat.reduceAdd, Nat.reduceMul, Nat.reduceLT, Nat.reduceLeDiff, Nat.reduceEqDiff, Nat.reduceBEq, Int.reduceToNat]) ?_; simp only [go_sem, reduceCtorEq, ↓reduceIte, Nat.reduceAdd, Nat.reduceMul, Nat.reduceLT, Nat.reduceLeDiff, Nat.reduceEqDiff, Nat.reduceBEq, Int.reduceToNat]; refine hK' _ _ ?_; clear hK' K'; simp only [List.nil_append, List.cons_append]
                      iterate 1 (refine DOps.consU fun K' hK' => ?_; simp (disch := omega) only [go_sem, reduceCtorEq, ↓reduceIte, Nat.reduceAdd, Nat.reduceMul, Nat.reduceLT, Nat.reduceLeDiff, Nat.reduceEqDiff, Nat.reduceBEq, Int.reduceToNat]; refine hK' _ _ ?_; clear hK' K'; simp only [List.nil_append, List.cons_append])
                      refine DOps.nil (by kernel_rfl) ?_
                      simp only [Post.then, Post.inBlock, ↓reduceIte, Nat.reduceEqDiff]
                      exact ⟨(r8, (L7 ++ [e8.To])), (Option.some.inj hj_16).symm, (Sub.mk ⟨rfl, rfl, rfl, slcl (by simp only [List.length_append, List.length_set, List.length_replicate, List.length_cons, List.length_nil, Nat.zero_add]), rfl, rfl, rfl, trivial⟩ ⟨rfl, rfl, rfl, trivial⟩ ⟨trivial, rfl, rfl, rfl, trivial, trivial, trivial, trivial⟩ ⟨⟨trivial, trivial⟩, ⟨trivial, trivial⟩, row_refs _ _, trivial⟩ ⟨rfl, trivial, rfl⟩)⟩
                    · rw [hb_129, cond_false] at hj_16
                      refine AWp.skip ?_
                      simp only [Post.then, Post.inBlock, ↓reduceIte, Nat.reduceEqDiff]
                      exact ⟨(c2, (L7 ++ [e8.To])), (Option.some.inj hj_16).symm, (Sub.mk ⟨rfl, rfl, rfl, slcl (by simp only [List.length_append, List.length_set, List.length_replicate, List.length_cons, List.length_nil, Nat.zero_add]), rfl, rfl, rfl, trivial⟩ ⟨rfl, rfl, rfl, trivial⟩ ⟨trivial, rfl, rfl, rfl, trivial, trivial, trivial, trivial⟩ ⟨⟨trivial, trivial⟩, ⟨trivial, trivial⟩, row_refs _ _, trivial⟩ ⟨rfl, trivial, rfl⟩)⟩
        · rintro ⟨c3, L3⟩ hx_137
          rw [hx_137] at hb_9
          try dsimp only at hb_9
          try dsimp only
          refine AWp.reg ?_
          iterate 2 (refine AOps.consU fun K' hK' => ?_; simp (disch := omega) only [go_sem, reduceCtorEq, ↓reduceIte, Nat.reduceAdd, Nat.reduceMul, Nat.reduceLT, Nat.reduceLeDiff, Nat.reduceEqDiff, Nat.reduceBEq, Int.reduceToNat]; refine hK' _ ?_; clear hK' K')
          refine AOps.nil ?_
          simp only [Post.then, Post.inBlock, ↓reduceIte, Nat.reduceEqDiff]
          rw [← Option.some.inj hb_9] at hl_7
          try dsimp only at hl_7
          exact ⟨(n_6, ((IntKind.i64.wrap (v1 + 1)), c3, L3)), hl_7, Nat.lt_succ_self n_6, (Sub.mk ⟨rfl, rfl, rfl, slcl (by simp only [List.length_append, List.length_set, List.length_replicate, List.length_cons, List.length_nil, Nat.zero_add]), rfl, rfl, rfl, trivial⟩ ⟨rfl, rfl, rfl, trivial⟩ ⟨trivial, rfl, rfl, rfl, trivial, trivial, trivial, trivial⟩ ⟨⟨trivial, trivial⟩, ⟨trivial, trivial⟩, row_refs _ _, trivial⟩ ⟨rfl, trivial, rfl⟩)⟩
      · rw [hb_14, cond_false] at hb_9
        refine AWp.exit ?_
        simp only [Post.then, Post.inBlock, ↓reduceIte, Nat.reduceEqDiff]
        rw [← Option.some.inj hb_9] at hl_7
        try dsimp only at hl_7
        rw [← Option.some.inj hl_7] at h2_8
        try dsimp only at h2_8
        exact ⟨(c2, L2), (Option.some.inj h2_8).symm, (Sub.mk ⟨rfl, slcl (by simp only [List.length_append, List.length_set, List.length_replicate, List.length_cons, List.length_nil, Nat.zero_add]), trivial⟩ ⟨rfl, rfl, trivial⟩ ⟨rfl, rfl, trivial⟩ ⟨⟨trivial, trivial⟩, row_refs _ _, trivial⟩ ⟨rfl, trivial, rfl⟩)⟩
  · rintro ⟨c1, L1⟩ hx_141
    rw [hx_141] at h
    try dsimp only at h
    try dsimp only
    refine AWp.seq fun K_139 hK_139 => AWp.reg ?_
    iterate 5 (refine AOps.consU fun K' hK' => ?_; simp (disch := omega) only [go_sem, reduceCtorEq, ↓reduceIte, Nat.reduceAdd, Nat.reduceMul, Nat.reduceLT, Nat.reduceLeDiff, Nat.reduceEqDiff, Nat.reduceBEq, Int.reduceToNat]; refine hK' _ ?_; clear hK' K')
    refine AOps.nil ?_
    simp only [Post.then]
    refine hK_139 _ ?_
    clear hK_139 K_139
    refine AWp.ret ?_
    simp only [Post.then, Post.inBlock, Go.Pv.Fin, Go.Pv.FinG]
    rw [← Option.some.inj h]
    refine ⟨.tuple [.d (.agg [(.int .i64 c1.Num), (.int .i64 c1.Den)]), .slc 1002 0 L1.length, .d (.bool true)], ?_, (by first | exact True.intro | rfl), .tuple [.d (.agg [(.int .i64 c1.Num), (.int .i64 c1.Den)]), .d (.imm 1 (lenc (PD.int .i64) L1)), .d (.bool true)], ?_, ?_⟩
    · simp only [go_sem, Tryd.results64, List.length_append, List.length_set, List.length_replicate, reduceCtorEq, ↓reduceIte, Nat.reduceAdd, Nat.reduceMul, Nat.reduceLT, Nat.reduceLeDiff, Nat.reduceEqDiff, Nat.reduceBEq, Int.reduceToNat]
    · simp only [go_sem, lenc_nil, List.take_length, List.length_append, List.length_set, List.length_replicate, reduceCtorEq, ↓reduceIte, Nat.reduceAdd, Nat.reduceMul, Nat.reduceLT, Nat.reduceLeDiff, Nat.reduceEqDiff, Nat.reduceBEq, Int.reduceToNat]
    · (first | exact leV_refl _ | (simp only [go_sem, leV, leVL, leD, leDL, lenc_nil, leD_refl, leDL_refl, lstD_le, reduceCtorEq, ↓reduceIte, Nat.reduceAdd, Nat.reduceMul, Nat.reduceLT, Nat.reduceLeDiff, Nat.reduceEqDiff, Nat.reduceBEq, Int.reduceToNat]; done))

end Go.Pv.Tryd

namespace Go.Pv.Tryd
open Go.Proofs Go.Pv

theorem m_rate_Change_ok (n1 : Int) (offers1 : (List Offer)) (list1 : (List Int)) (amount1 : Int) (r : (Int × Int)) (h : m_rate_Change n1 offers1 list1 amount1 = some r) : PureFn Tryd.prog G 35 [.d (.int .i64 n1), .d (.imm 4 (lenc Offer.pd offers1)), .d (.imm 1 (lenc (PD.int .i64) list1)), .d (.int .i64 amount1)] (.tuple [.d (.int .i64 r.1), .d (.int .i64 r.2)]) := by
  unfold m_rate_Change at h
  refine PureFn.intro2 Tryd.func35 (by rfl) (by rw [Tryd.ntmps35]; simp) ?_
  rw [Tryd.ntmps35]
  simp only [argEnv, reduceCtorEq, ↓reduceIte, Nat.reduceAdd, Nat.reduceMul, Nat.reduceLT, Nat.reduceLeDiff, Nat.reduceEqDiff, Nat.reduceBEq, Int.reduceToNat]
  refine AWp.seq fun K_1 hK_1 => AWp.reg ?_
  iterate 2 (refine AOps.consU fun K' hK' => ?_; simp (disch := omega) only [go_sem, reduceCtorEq, ↓reduceIte, Nat.reduceAdd, Nat.reduceMul, Nat.reduceLT, Nat.reduceLeDiff, Nat.reduceEqDiff, Nat.reduceBEq, Int.reduceToNat]; refine hK' _ ?_; clear hK' K')
  refine AOps.nil ?_
  simp only [Post.then]
  refine hK_1 _ ?_
  clear hK_1 K_1
  refine AWp.seq fun K_2 hK_2 => AWp.reg ?_
  iterate 2 (refine AOps.consU fun K' hK' => ?_; simp (disch := omega) only [go_sem, reduceCtorEq, ↓reduceIte, Nat.reduceAdd, Nat.reduceMul, Nat.reduceLT, Nat.reduceLeDiff, Nat.reduceEqDiff, Nat.reduceBEq, Int.reduceToNat]; refine hK' _ ?_; clear hK' K')
  obtain ⟨r1, hx_3, h⟩ := bind_some h
  refine AOps.consU fun K' hK' => ?_; simp (disch := omega) only [go_sem, reduceCtorEq, ↓reduceIte, Nat.reduceAdd, Nat.reduceMul, Nat.reduceLT, Nat.reduceLeDiff, Nat.reduceEqDiff, Nat.reduceBEq, Int.reduceToNat]; refine OpT.call (by rfl) (by rfl) (by kernel_rfl) (m_rate_of_ok n1 offers1 _ hx_3) (by exact ⟨rfl, rfl, trivial⟩) (by simp only [go_sem, reduceCtorEq, ↓reduceIte, Nat.reduceAdd, Nat.reduceMul, Nat.reduceLT, Nat.reduceLeDiff, Nat.reduceEqDiff, Nat.reduceBEq, Int.reduceToNat]) ?_ (by simp only [go_sem]); simp only [go_sem, reduceCtorEq, ↓reduceIte, Nat.reduceAdd, Nat.reduceMul, Nat.reduceLT, Nat.reduceLeDiff, Nat.reduceEqDiff, Nat.reduceBEq, Int.reduceToNat]; refine hK' _ ?_; clear hK' K'
  iterate 6 (refine AOps.consU fun K' hK' => ?_; simp (disch := omega) only [go_sem, reduceCtorEq, ↓reduceIte, Nat.reduceAdd, Nat.reduceMul, Nat.reduceLT, Nat.reduceLeDiff, Nat.reduceEqDiff, Nat.reduceBEq, Int.reduceToNat]; refine hK' _ ?_; clear hK' K')
  refine AOps.nil ?_
  simp only [Post.then]
  refine hK_2 _ ?_
  clear hK_2 K_2
  refine AWp.seq fun K_4 hK_4 => ?_
  refine AWp.seq fun K_5 hK_5 => AWp.reg ?_
  iterate 2 (refine AOps.consU fun K' hK' => ?_; simp (disch := omega) only [go_sem, reduceCtorEq, ↓reduceIte, Nat.reduceAdd, Nat.reduceMul, Nat.reduceLT, Nat.reduceLeDiff, Nat.reduceEqDiff, Nat.reduceBEq, Int.reduceToNat]; refine hK' _ ?_; clear hK' K')
  refine AOps.nil ?_
  simp only [Post.then]
  refine hK_5 _ ?_
  clear hK_5 K_5
  refine AWp.cond (b := (decide (¬r1.2 = 0))) (by rfl) (fun hb_6 => ?_) (fun hb_6 => ?_)
  · rw [hb_6, cond_true] at h
    refine AWp.seq fun K_7 hK_7 => AWp.reg ?_
    iterate 3 (refine AOps.consU fun K' hK' => ?_; simp (disch := omega) only [go_sem, reduceCtorEq, ↓reduceIte, Nat.reduceAdd, Nat.reduceMul, Nat.reduceLT, Nat.reduceLeDiff, Nat.reduceEqDiff, Nat.reduceBEq, Int.reduceToNat]; refine hK' _ ?_; clear hK' K')
    refine AOps.nil ?_
    simp only [Post.then]
    refine hK_7 _ ?_
    clear hK_7 K_7
    refine AWp.ret ?_
    simp only [Post.then, Post.inBlock, Go.Pv.Fin, Go.Pv.FinG]
    rw [← Option.some.inj h]
    refine ⟨.tuple [.d (.int .i64 0), .d (.int .i64 r1.2)], ?_, (by first | exact True.intro | rfl), .tuple [.d (.int .i64 0), .d (.int .i64 r1.2)], ?_, ?_⟩
    · simp only [go_sem, Tryd.results35, List.length_append, List.length_set, List.length_replicate, reduceCtorEq, ↓reduceIte, Nat.reduceAdd, Nat.reduceMul, Nat.reduceLT, Nat.reduceLeDiff, Nat.reduceEqDiff, Nat.reduceBEq, Int.reduceToNat]
    · simp only [go_sem, lenc_nil, List.take_length, List.length_append, List.length_set, List.length_replicate, reduceCtorEq, ↓reduceIte, Nat.reduceAdd, Nat.reduceMul, Nat.reduceLT, Nat.reduceLeDiff, Nat.reduceEqDiff, Nat.reduceBEq, Int.reduceToNat]
    · (first | exact leV_refl _ | (simp only [go_sem, leV, leVL, leD, leDL, lenc_nil, leD_refl, leDL_refl, lstD_le, reduceCtorEq, ↓reduceIte, Nat.reduceAdd, Nat.reduceMul, Nat.reduceLT, Nat.reduceLeDiff, Nat.reduceEqDiff, Nat.reduceBEq, Int.reduceToNat]; done))
  · rw [hb_6, cond_false] at h
    refine AWp.skip ?_
    simp only [Post.then, Post.inBlock, ↓reduceIte, Nat.reduceEqDiff]
    refine hK_4 _ ?_
    clear hK_4 K_4
    refine AWp.seq fun K_8 hK_8 => ?_
    refine AWp.seq fun K_9 hK_9 => AWp.reg ?_
    iterate 4 (refine AOps.consU fun K' hK' => ?_; simp (disch := omega) only [go_sem, reduceCtorEq, ↓reduceIte, Nat.reduceAdd, Nat.reduceMul, Nat.reduceLT, Nat.reduceLeDiff, Nat.reduceEqDiff, Nat.reduceBEq, Int.reduceToNat]; refine hK' _ ?_; clear hK' K')
    refine AOps.cut 3 (⟨[(1, .d (.imm 4 (lenc Offer.pd offers1))), (2, .d (.imm 1 (lenc (PD.int .i64) list1))), (3, .d (.int .i64 amount1)), (10, .ptr 1000 0 0), (32, .d (.bool ((decide (20 < (list1.length : Int))) || (decide (amount1 < 0)))))], [(1000, ⟨77, 2, [.d (.agg [(.int .i64 r1.1.n), (.imm 4 (lenc Offer.pd r1.1.offers))])]⟩)], [], none⟩) ?_ ?_
    · simp only [List.take_succ_cons, List.take_zero]
      rcases Bool.eq_false_or_eq_true (decide (20 < (list1.length : Int))) with hg_11 | hg_11
      · rw [hg_11]
        iterate 3 (refine AOps.consU fun K' hK' => ?_; simp (disch := omega) only [go_sem, reduceCtorEq, ↓reduceIte, Nat.reduceAdd, Nat.reduceMul, Nat.reduceLT, Nat.reduceLeDiff, Nat.reduceEqDiff, Nat.reduceBEq, Int.reduceToNat]; refine hK' _ ?_; clear hK' K')
        refine AOps.nil ?_
        exact (Sub.mk ⟨rfl, rfl, rfl, rfl, rfl, trivial⟩ ⟨rfl, trivial⟩ ⟨trivial, trivial, trivial, rfl, trivial, trivial⟩ ⟨⟨trivial, trivial⟩, trivial⟩ ⟨rfl, trivial, rfl⟩)
      · rw [hg_11]
        iterate 3 (refine AOps.consU fun K' hK' => ?_; simp (disch := omega) only [go_sem, reduceCtorEq, ↓reduceIte, Nat.reduceAdd, Nat.reduceMul, Nat.reduceLT, Nat.reduceLeDiff, Nat.reduceEqDiff, Nat.reduceBEq, Int.reduceToNat]; refine hK' _ ?_; clear hK' K')
        refine AOps.nil ?_
        exact (Sub.mk ⟨rfl, rfl, rfl, rfl, rfl, trivial⟩ ⟨rfl, trivial⟩ ⟨trivial, trivial, trivial, rfl, trivial, trivial⟩ ⟨⟨trivial, trivial⟩, trivial⟩ ⟨rfl, trivial, rfl⟩)
    simp only [List.drop_succ_cons, List.drop_zero]
    iterate 1 (refine AOps.consU fun K' hK' => ?_; simp (disch := omega) only [go_sem, reduceCtorEq, ↓reduceIte, Nat.reduceAdd, Nat.reduceMul, Nat.reduceLT, Nat.reduceLeDiff, Nat.reduceEqDiff, Nat.reduceBEq, Int.reduceToNat]; refine hK' _ ?_; clear hK' K')
    refine AOps.cut 3 (⟨[(1, .d (.imm 4 (lenc Offer.pd offers1))), (2, .d (.imm 1 (lenc (PD.int .i64) list1))), (3, .d (.int .i64 amount1)), (10, .ptr 1000 0 0), (36, .d (.bool (((decide (20 < (list1.length : Int))) || (decide (amount1 < 0))) || (decide (1099511627776 < amount1)))))], [(1000, ⟨77, 2, [.d (.agg [(.int .i64 r1.1.n), (.imm 4 (lenc Offer.pd r1.1.offers))])]⟩)], [], none⟩) ?_ ?_
    · simp only [List.take_succ_cons, List.take_zero]
      rcases Bool.eq_false_or_eq_true ((decide (20 < (list1.length : Int))) || (decide (amount1 < 0))) with hg_13 | hg_13
      · rw [hg_13]
        iterate 3 (refine AOps.consU fun K' hK' => ?_; simp (disch := omega) only [go_sem, reduceCtorEq, ↓reduceIte, Nat.reduceAdd, Nat.reduceMul, Nat.reduceLT, Nat.reduceLeDiff, Nat.reduceEqDiff, Nat.reduceBEq, Int.reduceToNat]; refine hK' _ ?_; clear hK' K')
        refine AOps.nil ?_
        exact (Sub.mk ⟨rfl, rfl, rfl, rfl, rfl, trivial⟩ ⟨rfl, trivial⟩ ⟨trivial, trivial, trivial, rfl, trivial, trivial⟩ ⟨⟨trivial, trivial⟩, trivial⟩ ⟨rfl, trivial, rfl⟩)
      · rw [hg_13]
        iterate 3 (refine AOps.consU fun K' hK' => ?_; simp (disch := omega) only [go_sem, reduceCtorEq, ↓reduceIte, Nat.reduceAdd, Nat.reduceMul, Nat.reduceLT, Nat.reduceLeDiff, Nat.reduceEqDiff, Nat.reduceBEq, Int.reduceToNat]; refine hK' _ ?_; clear hK' K')
        refine AOps.nil ?_
        exact (Sub.mk ⟨rfl, rfl, rfl, rfl, rfl, trivial⟩ ⟨rfl, trivial⟩ ⟨trivial, trivial, trivial, rfl, trivial, trivial⟩ ⟨⟨trivial, trivial⟩, trivial⟩ ⟨rfl, trivial, rfl⟩)
    simp only [List.drop_succ_cons, List.drop_zero]
    refine AOps.nil ?_
    simp only [Post.then]
    refine hK_9 _ ?_
    clear hK_9 K_9
    refine AWp.cond (b := (((decide (20 < (list1.length : Int))) || (decide (amount1 < 0))) || (decide (1099511627776 < amount1)))) (by rfl) (fun hb_14 => ?_) (fun hb_14 => ?_)
    · rw [hb_14, cond_true] at h
      refine AWp.seq fun K_15 hK_15 => AWp.reg ?_
      iterate 2 (refine AOps.consU fun K' hK' => ?_; simp (disch := omega) only [go_sem, reduceCtorEq, ↓reduceIte, Nat.reduceAdd, Nat.reduceMul, Nat.reduceLT, Nat.reduceLeDiff, Nat.reduceEqDiff, Nat.reduceBEq, Int.reduceToNat]; refine hK' _ ?_; clear hK' K')
      refine AOps.nil ?_
      simp only [Post.then]
      refine hK_15 _ ?_
      clear hK_15 K_15
      refine AWp.ret ?_
      simp only [Post.then, Post.inBlock, Go.Pv.Fin, Go.Pv.FinG]
      rw [← Option.some.inj h]
      refine ⟨.tuple [.d (.int .i64 0), .d (.int .i64 2)], ?_, (by first | exact True.intro | rfl), .tuple [.d (.int .i64 0), .d (.int .i64 2)], ?_, ?_⟩
      · simp only [go_sem, Tryd.results35, List.length_append, List.length_set, List.length_replicate, reduceCtorEq, ↓reduceIte, Nat.reduceAdd, Nat.reduceMul, Nat.reduceLT, Nat.reduceLeDiff, Nat.reduceEqDiff, Nat.reduceBEq, Int.reduceToNat]
      · simp only [go_sem, lenc_nil, List.take_length, List.length_append, List.length_set, List.length_replicate, reduceCtorEq, ↓reduceIte, Nat.reduceAdd, Nat.reduceMul, Nat.reduceLT, Nat.reduceLeDiff, Nat.reduceEqDiff, Nat.reduceBEq, Int.reduceToNat]
      · (first | exact leV_refl _ | (simp only [go_sem, leV, leVL, leD, leDL, lenc_nil, leD_refl, leDL_refl, lstD_le, reduceCtorEq, ↓reduceIte, Nat.reduceAdd, Nat.reduceMul, Nat.reduceLT, Nat.reduceLeDiff, Nat.reduceEqDiff, Nat.reduceBEq, Int.reduceToNat]; done))
    · rw [hb_14, cond_false] at h
      refine AWp.skip ?_
      simp only [Post.then, Post.inBlock, ↓reduceIte, Nat.reduceEqDiff]
      refine hK_8 _ ?_
      clear hK_8 K_8
      refine AWp.seq fun K_16 hK_16 => ?_
      refine AWp.seq fun K_17 hK_17 => AWp.reg ?_
      iterate 2 (refine AOps.consU fun K' hK' => ?_; simp (disch := omega) only [go_sem, reduceCtorEq, ↓reduceIte, Nat.reduceAdd, Nat.reduceMul, Nat.reduceLT, Nat.reduceLeDiff, Nat.reduceEqDiff, Nat.reduceBEq, Int.reduceToNat]; refine hK' _ ?_; clear hK' K')
      obtain ⟨r2, hx_18, h⟩ := bind_some h
      refine AOps.consU fun K' hK' => ?_; simp (disch := omega) only [go_sem, reduceCtorEq, ↓reduceIte, Nat.reduceAdd, Nat.reduceMul, Nat.reduceLT, Nat.reduceLeDiff, Nat.reduceEqDiff, Nat.reduceBEq, Int.reduceToNat]; refine OpT.call (by rfl) (by rfl) (by kernel_rfl) (m_rate_market_follow_ok r1.1 list1 _ hx_18) (by exact ⟨rfl, rfl, trivial⟩) (by simp only [go_sem, reduceCtorEq, ↓reduceIte, Nat.reduceAdd, Nat.reduceMul, Nat.reduceLT, Nat.reduceLeDiff, Nat.reduceEqDiff, Nat.reduceBEq, Int.reduceToNat]) ?_ (by simp only [go_sem]); simp only [go_sem, reduceCtorEq, ↓reduceIte, Nat.reduceAdd, Nat.reduceMul, Nat.reduceLT, Nat.reduceLeDiff, Nat.reduceEqDiff, Nat.reduceBEq, Int.reduceToNat]; refine hK' _ ?_; clear hK' K'
      iterate 8 (refine AOps.consU fun K' hK' => ?_; simp (disch := omega) only [go_sem, reduceCtorEq, ↓reduceIte, Nat.reduceAdd, Nat.reduceMul, Nat.reduceLT, Nat.reduceLeDiff, Nat.reduceEqDiff, Nat.reduceBEq, Int.reduceToNat]; refine hK' _ ?_; clear hK' K')
      refine AOps.nil ?_
      simp only [Post.then]
      refine hK_17 _ ?_
      clear hK_17 K_17
      refine AWp.seq fun K_19 hK_19 => AWp.reg ?_
      iterate 2 (refine AOps.consU fun K' hK' => ?_; simp (disch := omega) only [go_sem, reduceCtorEq, ↓reduceIte, Nat.reduceAdd, Nat.reduceMul, Nat.reduceLT, Nat.reduceLeDiff, Nat.reduceEqDiff, Nat.reduceBEq, Int.reduceToNat]; refine hK' _ ?_; clear hK' K')
      refine AOps.nil ?_
      simp only [Post.then]
      refine hK_19 _ ?_
      clear hK_19 K_19
      refine AWp.cond (b := (!r2.2.2)) (by rfl) (fun hb_20 => ?_) (fun hb_20 => ?_)
      · rw [hb_20, cond_true] at h
        refine AWp.seq fun K_21 hK_21 => AWp.reg ?_
        iterate 2 (refine AOps.consU fun K' hK' => ?_; simp (disch := omega) only [go_sem, reduceCtorEq, ↓reduceIte, Nat.reduceAdd, Nat.reduceMul, Nat.reduceLT, Nat.reduceLeDiff, Nat.reduceEqDiff, Nat.reduceBEq, Int.reduceToNat]; refine hK' _ ?_; clear hK' K')
        refine AOps.nil ?_
        simp only [Post.then]
        refine hK_21 _ ?_
        clear hK_21 K_21
        refine AWp.ret ?_
        simp only [Post.then, Post.inBlock, Go.Pv.Fin, Go.Pv.FinG]
        rw [← Option.some.inj h]
        refine ⟨.tuple [.d (.int .i64 0), .d (.int .i64 2)], ?_, (by first | exact True.intro | rfl), .tuple [.d (.int .i64 0), .d (.int .i64 2)], ?_, ?_⟩
        · simp only [go_sem, Tryd.results35, List.length_append, List.length_set, List.length_replicate, reduceCtorEq, ↓reduceIte, Nat.reduceAdd, Nat.reduceMul, Nat.reduceLT, Nat.reduceLeDiff, Nat.reduceEqDiff, Nat.reduceBEq, Int.reduceToNat]
        · simp only [go_sem, lenc_nil, List.take_length, List.length_append, List.length_set, List.length_replicate, reduceCtorEq, ↓reduceIte, Nat.reduceAdd, Nat.reduceMul, Nat.reduceLT, Nat.reduceLeDiff, Nat.reduceEqDiff, Nat.reduceBEq, Int.reduceToNat]
        · (first | exact leV_refl _ | (simp only [go_sem, leV, leVL, leD, leDL, lenc_nil, leD_refl, leDL_refl, lstD_le, reduceCtorEq, ↓reduceIte, Nat.reduceAdd, Nat.reduceMul, Nat.reduceLT, Nat.reduceLeDiff, Nat.reduceEqDiff, Nat.reduceBEq, Int.reduceToNat]; done))
      · rw [hb_20, cond_false] at h
        refine AWp.skip ?_
        simp only [Post.then, Post.inBlock, ↓reduceIte, Nat.reduceEqDiff]
        refine hK_16 _ ?_
        clear hK_16 K_16
        obtain ⟨o_22, hj_23, h⟩ := bind_some h
        refine AWp.seqI (fun i_54 : Int => ⟨[(3, .d (.int .i64 i_54))], [], [], none⟩) (fun i_54 => o_22 = (.inl i_54)) ?_ ?_
        · refine AWp.seq fun K_24 hK_24 => AWp.reg ?_
          iterate 3 (refine AOps.consU fun K' hK' => ?_; simp (disch := omega) only [go_sem, reduceCtorEq, ↓reduceIte, Nat.reduceAdd, Nat.reduceMul, Nat.reduceLT, Nat.reduceLeDiff, Nat.reduceEqDiff, Nat.reduceBEq, Int.reduceToNat]; refine hK' _ ?_; clear hK' K')
          refine AOps.nil ?_
          simp only [Post.then]
          refine hK_24 _ ?_
          clear hK_24 K_24
          refine AWp.block ?_
          obtain ⟨x_29, hl_26, h2_27⟩ := bind_some hj_23
          obtain ⟨n_25, hl_26⟩ := iter_some hl_26
          refine AWp.loopI (fun i_52 : Nat × (Int × Int) => ⟨[(1, .d (.imm 4 (lenc Offer.pd offers1))), (3, .d (.int .i64 i_52.2.1)), (46, .d (.imm 1 (lenc (PD.int .i64) list1))), (47, .d (.int .i64 (list1.length : Int))), (48, .d (.int .i64 i_52.2.2))], [], [], none⟩) (fun i_52 => iterN (m_rate_Change_l1 offers1 list1) i_52.1 i_52.2 = some x_29) (fun i_52 => i_52.1) (n_25, (amount1, 0)) hl_26 (Sub.mk ⟨rfl, rfl, rfl, rfl, rfl, trivial⟩ trivial ⟨trivial, trivial, trivial, trivial, trivial, trivial⟩ trivial ⟨rfl, trivial, rfl⟩) ?_
          clear hl_26
          rintro ⟨n_25, amount3, v1⟩ hl_26
          try dsimp only at hl_26
          try dsimp only
          cases n_25 with
          | zero => cases hl_26
          | succ n_25 =>
            rw [iterN_succ] at hl_26
            obtain ⟨ob_30, hb_28, hl_26⟩ := bind_some hl_26
            unfold m_rate_Change_l1 at hb_28
            try dsimp only at hb_28
            refine AWp.seq fun K_31 hK_31 => AWp.reg ?_
            iterate 1 (refine AOps.consU fun K' hK' => ?_; simp (disch := omega) only [go_sem, reduceCtorEq, ↓reduceIte, Nat.reduceAdd, Nat.reduceMul, Nat.reduceLT, Nat.reduceLeDiff, Nat.reduceEqDiff, Nat.reduceBEq, Int.reduceToNat]; refine hK' _ ?_; clear hK' K')
            refine AOps.nil ?_
            simp only [Post.then]
            refine hK_31 _ ?_
            clear hK_31 K_31
            refine AWp.seq fun K_32 hK_32 => ?_
            refine AWp.cond (b := (decide (v1 < (list1.length : Int)))) (by rfl) (fun hb_33 => ?_) (fun hb_33 => ?_)
            · rw [hb_33, cond_true] at hb_28
              refine AWp.skip ?_
              simp only [Post.then, Post.inBlock, ↓reduceIte, Nat.reduceEqDiff]
              refine hK_32 _ ?_
              clear hK_32 K_32
              refine AWp.seq fun K_34 hK_34 => ?_
              refine AWp.block ?_
              refine AWp.seq fun K_35 hK_35 => AWp.reg ?_
              obtain ⟨e1, hx_36, hb_28⟩ := bind_some hb_28
              obtain ⟨f_37, f_38, f_39, f_40⟩ := idx_some hx_36
              iterate 3 (refine AOps.consU fun K' hK' => ?_; simp (disch := omega) only [go_sem, f_39, reduceCtorEq, ↓reduceIte, Nat.reduceAdd, Nat.reduceMul, Nat.reduceLT, Nat.reduceLeDiff, Nat.reduceEqDiff, Nat.reduceBEq, Int.reduceToNat]; refine hK' _ ?_; clear hK' K')
              refine AOps.nil ?_
              simp only [Post.then]
              refine hK_35 _ ?_
              clear hK_35 K_35
              refine AWp.seq fun K_41 hK_41 => AWp.draw mo [] (by trivial) ?_
              obtain ⟨e2, hx_42, hb_28⟩ := bind_some hb_28
              obtain ⟨f_43, f_44, f_45, f_46⟩ := idx_some hx_42
              obtain ⟨hg_47, hb_28⟩ := guardO_some hb_28
              iterate 14 (refine DOps.consU fun K' hK' => ?_; simp (disch := omega) only [go_sem, f_45, reduceCtorEq, ↓reduceIte, Nat.reduceAdd, Nat.reduceMul, Nat.reduceLT, Nat.reduceLeDiff, Nat.reduceEqDiff, Nat.reduceBEq, Int.reduceToNat]; refine hK' _ _ ?_; clear hK' K'; simp only [List.nil_append, List.cons_append])
              refine DOps.nil (by kernel_rfl) ?_
              simp only [Post.then]
              refine hK_41 _ ?_
              clear hK_41 K_41
              refine AWp.seq fun K_48 hK_48 => AWp.reg ?_
              iterate 2 (refine AOps.consU fun K' hK' => ?_; simp (disch := omega) only [go_sem, reduceCtorEq, ↓reduceIte, Nat.reduceAdd, Nat.reduceMul, Nat.reduceLT, Nat.reduceLeDiff, Nat.reduceEqDiff, Nat.reduceBEq, Int.reduceToNat]; refine hK' _ ?_; clear hK' K')
              refine AOps.nil ?_
              simp only [Post.then]
              refine hK_48 _ ?_
              clear hK_48 K_48
              refine AWp.cond (b := (decide (1099511627776 < (IntKind.i64.wrap ((IntKind.i64.wrap (amount3 * e2.Num)).tdiv e2.Den))))) (by rfl) (fun hb_49 => ?_) (fun hb_49 => ?_)
              · rw [hb_49, cond_true] at hb_28
                refine AWp.seq fun K_50 hK_50 => AWp.reg ?_
                iterate 2 (refine AOps.consU fun K' hK' => ?_; simp (disch := omega) only [go_sem, reduceCtorEq, ↓reduceIte, Nat.reduceAdd, Nat.reduceMul, Nat.reduceLT, Nat.reduceLeDiff, Nat.reduceEqDiff, Nat.reduceBEq, Int.reduceToNat]; refine hK' _ ?_; clear hK' K')
                refine AOps.nil ?_
                simp only [Post.then]
                refine hK_50 _ ?_
                clear hK_50 K_50
                refine AWp.ret ?_
                simp only [Post.then, Post.inBlock, Go.Pv.Fin, Go.Pv.FinG]
                rw [← Option.some.inj hb_28] at hl_26
                try dsimp only at hl_26
                rw [← Option.some.inj hl_26] at h2_27
                try dsimp only at h2_27
                rw [← Option.some.inj h2_27] at h
                try dsimp only at h
                rw [← Option.some.inj h]
                refine ⟨.tuple [.d (.int .i64 0), .d (.int .i64 4)], ?_, (by first | exact True.intro | rfl), .tuple [.d (.int .i64 0), .d (.int .i64 4)], ?_, ?_⟩
                · simp only [go_sem, Tryd.results35, List.length_append, List.length_set, List.length_replicate, reduceCtorEq, ↓reduceIte, Nat.reduceAdd, Nat.reduceMul, Nat.reduceLT, Nat.reduceLeDiff, Nat.reduceEqDiff, Nat.reduceBEq, Int.reduceToNat]
                · simp only [go_sem, lenc_nil, List.take_length, List.length_append, List.length_set, List.length_replicate, reduceCtorEq, ↓reduceIte, Nat.reduceAdd, Nat.reduceMul, Nat.reduceLT, Nat.reduceLeDiff, Nat.reduceEqDiff, Nat.reduceBEq, Int.reduceToNat]
                · (first | exact leV_refl _ | (simp only [go_sem, leV, leVL, leD, leDL, lenc_nil, leD_refl, leDL_refl, lstD_le, reduceCtorEq, ↓reduceIte, Nat.reduceAdd, Nat.reduceMul, Nat.reduceLT, Nat.reduceLeDiff, Nat.reduceEqDiff, Nat.reduceBEq, Int.reduceToNat]; done))
              · rw [hb_49, cond_false] at hb_28
                refine AWp.skip ?_
                simp only [Post.then, Post.inBlock, ↓reduceIte, Nat.reduceEqDiff]
                refine hK_34 _ ?_
                clear hK_34 K_34
                refine AWp.reg ?_
                iterate 2 (refine AOps.consU fun K' hK' => ?_; simp (disch := omega) only [go_sem, reduceCtorEq, ↓reduceIte, Nat.reduceAdd, Nat.reduceMul, Nat.reduceLT, Nat.reduceLeDiff, Nat.reduceEqDiff, Nat.reduceBEq, Int.reduceToNat]; refine hK' _ ?_; clear hK' K')
                refine AOps.nil ?_
                simp only [Post.then, Post.inBlock, ↓reduceIte, Nat.reduceEqDiff]
                rw [← Option.some.inj hb_28] at hl_26
                try dsimp only at hl_26
                exact ⟨(n_25, ((IntKind.i64.wrap ((IntKind.i64.wrap (amount3 * e2.Num)).tdiv e2.Den)), (IntKind.i64.wrap (v1 + 1)))), hl_26, Nat.lt_succ_self n_25, (Sub.mk ⟨rfl, rfl, rfl, rfl, rfl, trivial⟩ trivial ⟨trivial, trivial, trivial, trivial, trivial, trivial⟩ trivial ⟨rfl, trivial, rfl⟩)⟩
            · rw [hb_33, cond_false] at hb_28
              refine AWp.exit ?_
              simp only [Post.then, Post.inBlock, ↓reduceIte, Nat.reduceEqDiff]
              rw [← Option.some.inj hb_28] at hl_26
              try dsimp only at hl_26
              rw [← Option.some.inj hl_26] at h2_27
              try dsimp only at h2_27
              exact ⟨amount3, (Option.some.inj h2_27).symm, (Sub.mk ⟨rfl, trivial⟩ trivial ⟨trivial, trivial⟩ trivial ⟨rfl, trivial, rfl⟩)⟩
        · rintro amount2 hx_55
          rw [hx_55] at h
          try dsimp only at h
          try dsimp only
          refine AWp.seq fun K_53 hK_53 => AWp.reg ?_
          iterate 3 (refine AOps.consU fun K' hK' => ?_; simp (disch := omega) only [go_sem, reduceCtorEq, ↓reduceIte, Nat.reduceAdd, Nat.reduceMul, Nat.reduceLT, Nat.reduceLeDiff, Nat.reduceEqDiff, Nat.reduceBEq, Int.reduceToNat]; refine hK' _ ?_; clear hK' K')
          refine AOps.nil ?_
          simp only [Post.then]
          refine hK_53 _ ?_
          clear hK_53 K_53
          refine AWp.ret ?_
          simp only [Post.then, Post.inBlock, Go.Pv.Fin, Go.Pv.FinG]
          rw [← Option.some.inj h]
          refine ⟨.tuple [.d (.int .i64 amount2), .d (.int .i64 0)], ?_, (by first | exact True.intro | rfl), .tuple [.d (.int .i64 amount2), .d (.int .i64 0)], ?_, ?_⟩
          · simp only [go_sem, Tryd.results35, List.length_append, List.length_set, List.length_replicate, reduceCtorEq, ↓reduceIte, Nat.reduceAdd, Nat.reduceMul, Nat.reduceLT, Nat.reduceLeDiff, Nat.reduceEqDiff, Nat.reduceBEq, Int.reduceToNat]
          · simp only [go_sem, lenc_nil, List.take_length, List.length_append, List.length_set, List.length_replicate, reduceCtorEq, ↓reduceIte, Nat.reduceAdd, Nat.reduceMul, Nat.reduceLT, Nat.reduceLeDiff, Nat.reduceEqDiff, Nat.reduceBEq, Int.reduceToNat]
          · (first | exact leV_refl _ | (simp only [go_sem, leV, leVL, leD, leDL, lenc_nil, leD_refl, leDL_refl, lstD_le, reduceCtorEq, ↓reduceIte, Nat.reduceAdd, Nat.reduceMul, Nat.reduceLT, Nat.reduceLeDiff, Nat.reduceEqDiff, Nat.reduceBEq, Int.reduceToNat]; done))

end Go.Pv.Tryd

namespace Go.Pv.Tryd
open Go.Proofs Go.Pv

theorem m_cocketref01_Good_ok (n1 : Int) (l1 : (List Offer)) (r : Int) (h : m_cocketref01_Good n1 l1 = some r) : PureFn Tryd.prog G 28 [.d (.int .i64 n1), .d (.imm 4 (lenc Offer.pd l1))] (.d (.int .i64 r)) := by
  unfold m_cocketref01_Good at h
  refine PureFn.intro2 Tryd.func28 (by rfl) (by rw [Tryd.ntmps28]; simp) ?_
  rw [Tryd.ntmps28]
  simp only [argEnv, reduceCtorEq, ↓reduceIte, Nat.reduceAdd, Nat.reduceMul, Nat.reduceLT, Nat.reduceLeDiff, Nat.reduceEqDiff, Nat.reduceBEq, Int.reduceToNat]
  refine AWp.seq fun K_1 hK_1 => AWp.reg ?_
  iterate 1 (refine AOps.consU fun K' hK' => ?_; simp (disch := omega) only [go_sem, reduceCtorEq, ↓reduceIte, Nat.reduceAdd, Nat.reduceMul, Nat.reduceLT, Nat.reduceLeDiff, Nat.reduceEqDiff, Nat.reduceBEq, Int.reduceToNat]; refine hK' _ ?_; clear hK' K')
  refine AOps.nil ?_
  simp only [Post.then]
  refine hK_1 _ ?_
  clear hK_1 K_1
  refine AWp.seq fun K_2 hK_2 => ?_
  refine AWp.seq fun K_3 hK_3 => AWp.reg ?_
  iterate 3 (refine AOps.consU fun K' hK' => ?_; simp (disch := omega) only [go_sem, reduceCtorEq, ↓reduceIte, Nat.reduceAdd, Nat.reduceMul, Nat.reduceLT, Nat.reduceLeDiff, Nat.reduceEqDiff, Nat.reduceBEq, Int.reduceToNat]; refine hK' _ ?_; clear hK' K')
  refine AOps.cut 3 (⟨[(0, .d (.int .i64 n1)), (1, .d (.imm 4 (lenc Offer.pd l1))), (12, .d (.bool ((decide (n1 < 2)) || (decide (6 < n1)))))], [], [], none⟩) ?_ ?_
  · simp only [List.take_succ_cons, List.take_zero]
    rcases Bool.eq_false_or_eq_true (decide (n1 < 2)) with hg_5 | hg_5
    · rw [hg_5]
      iterate 3 (refine AOps.consU fun K' hK' => ?_; simp (disch := omega) only [go_sem, reduceCtorEq, ↓reduceIte, Nat.reduceAdd, Nat.reduceMul, Nat.reduceLT, Nat.reduceLeDiff, Nat.reduceEqDiff, Nat.reduceBEq, Int.reduceToNat]; refine hK' _ ?_; clear hK' K')
      refine AOps.nil ?_
      exact (Sub.mk ⟨rfl, rfl, rfl, trivial⟩ trivial ⟨trivial, trivial, trivial, trivial⟩ trivial ⟨rfl, trivial, rfl⟩)
    · rw [hg_5]
      iterate 3 (refine AOps.consU fun K' hK' => ?_; simp (disch := omega) only [go_sem, reduceCtorEq, ↓reduceIte, Nat.reduceAdd, Nat.reduceMul, Nat.reduceLT, Nat.reduceLeDiff, Nat.reduceEqDiff, Nat.reduceBEq, Int.reduceToNat]; refine hK' _ ?_; clear hK' K')
      refine AOps.nil ?_
      exact (Sub.mk ⟨rfl, rfl, rfl, trivial⟩ trivial ⟨trivial, trivial, trivial, trivial⟩ trivial ⟨rfl, trivial, rfl⟩)
  simp only [List.drop_succ_cons, List.drop_zero]
  refine AOps.nil ?_
  simp only [Post.then]
  refine hK_3 _ ?_
  clear hK_3 K_3
  refine AWp.cond (b := ((decide (n1 < 2)) || (decide (6 < n1)))) (by rfl) (fun hb_6 => ?_) (fun hb_6 => ?_)
  · rw [hb_6, cond_true] at h
    refine AWp.seq fun K_7 hK_7 => AWp.reg ?_
    iterate 1 (refine AOps.consU fun K' hK' => ?_; simp (disch := omega) only [go_sem, reduceCtorEq, ↓reduceIte, Nat.reduceAdd, Nat.reduceMul, Nat.reduceLT, Nat.reduceLeDiff, Nat.reduceEqDiff, Nat.reduceBEq, Int.reduceToNat]; refine hK' _ ?_; clear hK' K')
    refine AOps.nil ?_
    simp only [Post.then]
    refine hK_7 _ ?_
    clear hK_7 K_7
    refine AWp.ret ?_
    simp only [Post.then, Post.inBlock, Go.Pv.Fin, Go.Pv.FinG]
    rw [← Option.some.inj h]
    refine ⟨.d (.int .i64 2), ?_, (by first | exact True.intro | rfl), .d (.int .i64 2), ?_, ?_⟩
    · simp only [go_sem, Tryd.results28, List.length_append, List.length_set, List.length_replicate, reduceCtorEq, ↓reduceIte, Nat.reduceAdd, Nat.reduceMul, Nat.reduceLT, Nat.reduceLeDiff, Nat.reduceEqDiff, Nat.reduceBEq, Int.reduceToNat]
    · simp only [go_sem, lenc_nil, List.take_length, List.length_append, List.length_set, List.length_replicate, reduceCtorEq, ↓reduceIte, Nat.reduceAdd, Nat.reduceMul, Nat.reduceLT, Nat.reduceLeDiff, Nat.reduceEqDiff, Nat.reduceBEq, Int.reduceToNat]
    · (first | exact leV_refl _ | (simp only [go_sem, leV, leVL, leD, leDL, lenc_nil, leD_refl, leDL_refl, lstD_le, reduceCtorEq, ↓reduceIte, Nat.reduceAdd, Nat.reduceMul, Nat.reduceLT, Nat.reduceLeDiff, Nat.reduceEqDiff, Nat.reduceBEq, Int.reduceToNat]; done))
  · rw [hb_6, cond_false] at h
    refine AWp.skip ?_
    simp only [Post.then, Post.inBlock, ↓reduceIte, Nat.reduceEqDiff]
    refine hK_2 _ ?_
    clear hK_2 K_2
    refine AWp.seq fun K_8 hK_8 => ?_
    refine AWp.seq fun K_9 hK_9 => AWp.reg ?_
    iterate 3 (refine AOps.consU fun K' hK' => ?_; simp (disch := omega) only [go_sem, reduceCtorEq, ↓reduceIte, Nat.reduceAdd, Nat.reduceMul, Nat.reduceLT, Nat.reduceLeDiff, Nat.reduceEqDiff, Nat.reduceBEq, Int.reduceToNat]; refine hK' _ ?_; clear hK' K')
    refine AOps.nil ?_
    simp only [Post.then]
    refine hK_9 _ ?_
    clear hK_9 K_9
    refine AWp.cond (b := (decide (40 < (l1.length : Int)))) (by rfl) (fun hb_10 => ?_) (fun hb_10 => ?_)
    · rw [hb_10, cond_true] at h
      refine AWp.seq fun K_11 hK_11 => AWp.reg ?_
      iterate 1 (refine AOps.consU fun K' hK' => ?_; simp (disch := omega) only [go_sem, reduceCtorEq, ↓reduceIte, Nat.reduceAdd, Nat.reduceMul, Nat.reduceLT, Nat.reduceLeDiff, Nat.reduceEqDiff, Nat.reduceBEq, Int.reduceToNat]; refine hK' _ ?_; clear hK' K')
      refine AOps.nil ?_
      simp only [Post.then]
      refine hK_11 _ ?_
      clear hK_11 K_11
      refine AWp.ret ?_
      simp only [Post.then, Post.inBlock, Go.Pv.Fin, Go.Pv.FinG]
      rw [← Option.some.inj h]
      refine ⟨.d (.int .i64 3), ?_, (by first | exact True.intro | rfl), .d (.int .i64 3), ?_, ?_⟩
      · simp only [go_sem, Tryd.results28, List.length_append, List.length_set, List.length_replicate, reduceCtorEq, ↓reduceIte, Nat.reduceAdd, Nat.reduceMul, Nat.reduceLT, Nat.reduceLeDiff, Nat.reduceEqDiff, Nat.reduceBEq, Int.reduceToNat]
      · simp only [go_sem, lenc_nil, List.take_length, List.length_append, List.length_set, List.length_replicate, reduceCtorEq, ↓reduceIte, Nat.reduceAdd, Nat.reduceMul, Nat.reduceLT, Nat.reduceLeDiff, Nat.reduceEqDiff, Nat.reduceBEq, Int.reduceToNat]
      · (first | exact leV_refl _ | (simp only [go_sem, leV, leVL, leD, leDL, lenc_nil, leD_refl, leDL_refl, lstD_le, reduceCtorEq, ↓reduceIte, Nat.reduceAdd, Nat.reduceMul, Nat.reduceLT, Nat.reduceLeDiff, Nat.reduceEqDiff, Nat.reduceBEq, Int.reduceToNat]; done))
    · rw [hb_10, cond_false] at h
      refine AWp.skip ?_
      simp only [Post.then, Post.inBlock, ↓reduceIte, Nat.reduceEqDiff]
      refine hK_8 _ ?_
      clear hK_8 K_8
      obtain ⟨o_12, hj_13, h⟩ := bind_some h
      refine AWp.seqI (fun i_53 : Unit => ⟨[], [], [], none⟩) (fun i_53 => o_12 = (.inl i_53)) ?_ ?_
      · refine AWp.seq fun K_14 hK_14 => AWp.reg ?_
        iterate 1 (refine AOps.consU fun K' hK' => ?_; simp (disch := omega) only [go_sem, reduceCtorEq, ↓reduceIte, Nat.reduceAdd, Nat.reduceMul, Nat.reduceLT, Nat.reduceLeDiff, Nat.reduceEqDiff, Nat.reduceBEq, Int.reduceToNat]; refine hK' _ ?_; clear hK' K')
        refine AOps.nil ?_
        simp only [Post.then]
        refine hK_14 _ ?_
        clear hK_14 K_14
        refine AWp.block ?_
        obtain ⟨x_19, hl_16, h2_17⟩ := bind_some hj_13
        obtain ⟨n_15, hl_16⟩ := iter_some hl_16
        refine AWp.loopI (fun i_51 : Nat × Int => ⟨[(0, .d (.int .i64 n1)), (1, .d (.imm 4 (lenc Offer.pd l1))), (5, .d (.int .i64 i_51.2))], [], [], none⟩) (fun i_51 => iterN (m_cocketref01_Good_l1 n1 l1) i_51.1 i_51.2 = some x_19) (fun i_51 => i_51.1) (n_15, 0) hl_16 (Sub.mk ⟨rfl, rfl, rfl, trivial⟩ trivial ⟨trivial, trivial, trivial, trivial⟩ trivial ⟨rfl, trivial, rfl⟩) ?_
        clear hl_16
        rintro ⟨n_15, i1⟩ hl_16
        try dsimp only at hl_16
        try dsimp only
        cases n_15 with
        | zero => cases hl_16
        | succ n_15 =>
          rw [iterN_succ] at hl_16
          obtain ⟨ob_20, hb_18, hl_16⟩ := bind_some hl_16
          unfold m_cocketref01_Good_l1 at hb_18
          try dsimp only at hb_18
          refine AWp.seq fun K_21 hK_21 => ?_
          refine AWp.seq fun K_22 hK_22 => AWp.reg ?_
          iterate 4 (refine AOps.consU fun K' hK' => ?_; simp (disch := omega) only [go_sem, reduceCtorEq, ↓reduceIte, Nat.reduceAdd, Nat.reduceMul, Nat.reduceLT, Nat.reduceLeDiff, Nat.reduceEqDiff, Nat.reduceBEq, Int.reduceToNat]; refine hK' _ ?_; clear hK' K')
          refine AOps.nil ?_
          simp only [Post.then]
          refine hK_22 _ ?_
          clear hK_22 K_22
          refine AWp.cond (b := (decide (i1 < (l1.length : Int)))) (by rfl) (fun hb_23 => ?_) (fun hb_23 => ?_)
          · rw [hb_23, cond_true] at hb_18
            refine AWp.skip ?_
            simp only [Post.then, Post.inBlock, ↓reduceIte, Nat.reduceEqDiff]
            refine hK_21 _ ?_
            clear hK_21 K_21
            refine AWp.seq fun K_24 hK_24 => ?_
            refine AWp.block ?_
            refine AWp.seq fun K_25 hK_25 => AWp.reg ?_
            obtain ⟨e1, hx_26, hb_18⟩ := bind_some hb_18
            obtain ⟨f_27, f_28, f_29, f_30⟩ := idx_some hx_26
            iterate 6 (refine AOps.consU fun K' hK' => ?_; simp (disch := omega) only [go_sem, f_29, reduceCtorEq, ↓reduceIte, Nat.reduceAdd, Nat.reduceMul, Nat.reduceLT, Nat.reduceLeDiff, Nat.reduceEqDiff, Nat.reduceBEq, Int.reduceToNat]; refine hK' _ ?_; clear hK' K')
            refine AOps.nil ?_
            simp only [Post.then]
            refine hK_25 _ ?_
            clear hK_25 K_25
            refine AWp.seq fun K_31 hK_31 => AWp.reg ?_
            iterate 4 (refine AOps.consU fun K' hK' => ?_; simp (disch := omega) only [go_sem, reduceCtorEq, ↓reduceIte, Nat.reduceAdd, Nat.reduceMul, Nat.reduceLT, Nat.reduceLeDiff, Nat.reduceEqDiff, Nat.reduceBEq, Int.reduceToNat]; refine hK' _ ?_; clear hK' K')
            refine AOps.cut 5 (⟨[(0, .d (.int .i64 n1)), (1, .d (.imm 4 (lenc Offer.pd l1))), (5, .d (.int .i64 i1)), (6, .ptr 1000 0 0), (34, .d (.bool ((decide (e1.From < 0)) || (decide (n1 ≤ e1.From)))))], [(1000, ⟨43, 4, [.d (.agg [(.int .i64 e1.From), (.int .i64 e1.To), (.int .i64 e1.Num), (.int .i64 e1.Den)])]⟩)], [], none⟩) ?_ ?_
            · simp only [List.take_succ_cons, List.take_zero]
              rcases Bool.eq_false_or_eq_true (decide (e1.From < 0)) with hg_33 | hg_33
              · rw [hg_33]
                iterate 5 (refine AOps.consU fun K' hK' => ?_; simp (disch := omega) only [go_sem, reduceCtorEq, ↓reduceIte, Nat.reduceAdd, Nat.reduceMul, Nat.reduceLT, Nat.reduceLeDiff, Nat.reduceEqDiff, Nat.reduceBEq, Int.reduceToNat]; refine hK' _ ?_; clear hK' K')
                refine AOps.nil ?_
                exact (Sub.mk ⟨rfl, rfl, rfl, rfl, rfl, trivial⟩ ⟨rfl, trivial⟩ ⟨trivial, trivial, trivial, rfl, trivial, trivial⟩ ⟨⟨trivial, trivial⟩, trivial⟩ ⟨rfl, trivial, rfl⟩)
              · rw [hg_33]
                iterate 5 (refine AOps.consU fun K' hK' => ?_; simp (disch := omega) only [go_sem, reduceCtorEq, ↓reduceIte, Nat.reduceAdd, Nat.reduceMul, Nat.reduceLT, Nat.reduceLeDiff, Nat.reduceEqDiff, Nat.reduceBEq, Int.reduceToNat]; refine hK' _ ?_; clear hK' K')
                refine AOps.nil ?_
                exact (Sub.mk ⟨rfl, rfl, rfl, rfl, rfl, trivial⟩ ⟨rfl, trivial⟩ ⟨trivial, trivial, trivial, rfl, trivial, trivial⟩ ⟨⟨trivial, trivial⟩, trivial⟩ ⟨rfl, trivial, rfl⟩)
            simp only [List.drop_succ_cons, List.drop_zero]
            iterate 1 (refine AOps.consU fun K' hK' => ?_; simp (disch := omega) only [go_sem, reduceCtorEq, ↓reduceIte, Nat.reduceAdd, Nat.reduceMul, Nat.reduceLT, Nat.reduceLeDiff, Nat.reduceEqDiff, Nat.reduceBEq, Int.reduceToNat]; refine hK' _ ?_; clear hK' K')
            refine AOps.cut 4 (⟨[(0, .d (.int .i64 n1)), (1, .d (.imm 4 (lenc Offer.pd l1))), (5, .d (.int .i64 i1)), (6, .ptr 1000 0 0), (39, .d (.bool (((decide (e1.From < 0)) || (decide (n1 ≤ e1.From))) || (decide (e1.To < 0)))))], [(1000, ⟨43, 4, [.d (.agg [(.int .i64 e1.From), (.int .i64 e1.To), (.int .i64 e1.Num), (.int .i64 e1.Den)])]⟩)], [], none⟩) ?_ ?_
            · simp only [List.take_succ_cons, List.take_zero]
              rcases Bool.eq_false_or_eq_true ((decide (e1.From < 0)) || (decide (n1 ≤ e1.From))) with hg_35 | hg_35
              · rw [hg_35]
                iterate 4 (refine AOps.consU fun K' hK' => ?_; simp (disch := omega) only [go_sem, reduceCtorEq, ↓reduceIte, Nat.reduceAdd, Nat.reduceMul, Nat.reduceLT, Nat.reduceLeDiff, Nat.reduceEqDiff, Nat.reduceBEq, Int.reduceToNat]; refine hK' _ ?_; clear hK' K')
                refine AOps.nil ?_
                exact (Sub.mk ⟨rfl, rfl, rfl, rfl, rfl, trivial⟩ ⟨rfl, trivial⟩ ⟨trivial, trivial, trivial, rfl, trivial, trivial⟩ ⟨⟨trivial, trivial⟩, trivial⟩ ⟨rfl, trivial, rfl⟩)
              · rw [hg_35]
                iterate 4 (refine AOps.consU fun K' hK' => ?_; simp (disch := omega) only [go_sem, reduceCtorEq, ↓reduceIte, Nat.reduceAdd, Nat.reduceMul, Nat.reduceLT, Nat.reduceLeDiff, Nat.reduceEqDiff, Nat.reduceBEq, Int.reduceToNat]; refine hK' _ ?_; clear hK' K')
                refine AOps.nil ?_
                exact (Sub.mk ⟨rfl, rfl, rfl, rfl, rfl, trivial⟩ ⟨rfl, trivial⟩ ⟨trivial, trivial, trivial, rfl, trivial, trivial⟩ ⟨⟨trivial, trivial⟩, trivial⟩ ⟨rfl, trivial, rfl⟩)
            simp only [List.drop_succ_cons, List.drop_zero]
            iterate 1 (refine AOps.consU fun K' hK' => ?_; simp (disch := omega) only [go_sem, reduceCtorEq, ↓reduceIte, Nat.reduceAdd, Nat.reduceMul, Nat.reduceLT, Nat.reduceLeDiff, Nat.reduceEqDiff, Nat.reduceBEq, Int.reduceToNat]; refine hK' _ ?_; clear hK' K')
            refine AOps.cut 5 (⟨[(0, .d (.int .i64 n1)), (1, .d (.imm 4 (lenc Offer.pd l1))), (5, .d (.int .i64 i1)), (6, .ptr 1000 0 0), (45, .d (.bool ((((decide (e1.From < 0)) || (decide (n1 ≤ e1.From))) || (decide (e1.To < 0))) || (decide (n1 ≤ e1.To)))))], [(1000, ⟨43, 4, [.d (.agg [(.int .i64 e1.From), (.int .i64 e1.To), (.int .i64 e1.Num), (.int .i64 e1.Den)])]⟩)], [], none⟩) ?_ ?_
            · simp only [List.take_succ_cons, List.take_zero]
              rcases Bool.eq_false_or_eq_true (((decide (e1.From < 0)) || (decide (n1 ≤ e1.From))) || (decide (e1.To < 0))) with hg_37 | hg_37
              · rw [hg_37]
                iterate 5 (refine AOps.consU fun K' hK' => ?_; simp (disch := omega) only [go_sem, reduceCtorEq, ↓reduceIte, Nat.reduceAdd, Nat.reduceMul, Nat.reduceLT, Nat.reduceLeDiff, Nat.reduceEqDiff, Nat.reduceBEq, Int.reduceToNat]; refine hK' _ ?_; clear hK' K')
                refine AOps.nil ?_
                exact (Sub.mk ⟨rfl, rfl, rfl, rfl, rfl, trivial⟩ ⟨rfl, trivial⟩ ⟨trivial, trivial, trivial, rfl, trivial, trivial⟩ ⟨⟨trivial, trivial⟩, trivial⟩ ⟨rfl, trivial, rfl⟩)
              · rw [hg_37]
                iterate 5 (refine AOps.consU fun K' hK' => ?_; simp (disch := omega) only [go_sem, reduceCtorEq, ↓reduceIte, Nat.reduceAdd, Nat.reduceMul, Nat.reduceLT, Nat.reduceLeDiff, Nat.reduceEqDiff, Nat.reduceBEq, Int.reduceToNat]; refine hK' _ ?_; clear hK' K')
                refine AOps.nil ?_
                exact (Sub.mk ⟨rfl, rfl, rfl, rfl, rfl, trivial⟩ ⟨rfl, trivial⟩ ⟨trivial, trivial, trivial, rfl, trivial, trivial⟩ ⟨⟨trivial, trivial⟩, trivial⟩ ⟨rfl, trivial, rfl⟩)
            simp only [List.drop_succ_cons, List.drop_zero]
            iterate 1 (refine AOps.consU fun K' hK' => ?_; simp (disch := omega) only [go_sem, reduceCtorEq, ↓reduceIte, Nat.reduceAdd, Nat.reduceMul, Nat.reduceLT, Nat.reduceLeDiff, Nat.reduceEqDiff, Nat.reduceBEq, Int.reduceToNat]; refine hK' _ ?_; clear hK' K')
            refine AOps.cut 6 (⟨[(0, .d (.int .i64 n1)), (1, .d (.imm 4 (lenc Offer.pd l1))), (5, .d (.int .i64 i1)), (6, .ptr 1000 0 0), (52, .d (.bool (((((decide (e1.From < 0)) || (decide (n1 ≤ e1.From))) || (decide (e1.To < 0))) || (decide (n1 ≤ e1.To))) || (decide (e1.From = e1.To)))))], [(1000, ⟨43, 4, [.d (.agg [(.int .i64 e1.From), (.int .i64 e1.To), (.int .i64 e1.Num), (.int .i64 e1.Den)])]⟩)], [], none⟩) ?_ ?_
            · simp only [List.take_succ_cons, List.take_zero]
              rcases Bool.eq_false_or_eq_true ((((decide (e1.From < 0)) || (decide (n1 ≤ e1.From))) || (decide (e1.To < 0))) || (decide (n1 ≤ e1.To))) with hg_39 | hg_39
              · rw [hg_39]
                iterate 6 (refine AOps.consU fun K' hK' => ?_; simp (disch := omega) only [go_sem, reduceCtorEq, ↓reduceIte, Nat.reduceAdd, Nat.reduceMul, Nat.reduceLT, Nat.reduceLeDiff, Nat.reduceEqDiff, Nat.reduceBEq, Int.reduceToNat]; refine hK' _ ?_; clear hK' K')
                refine AOps.nil ?_
                exact (Sub.mk ⟨rfl, rfl, rfl, rfl, rfl, trivial⟩ ⟨rfl, trivial⟩ ⟨trivial, trivial, trivial, rfl, trivial, trivial⟩ ⟨⟨trivial, trivial⟩, trivial⟩ ⟨rfl, trivial, rfl⟩)
              · rw [hg_39]
                iterate 6 (refine AOps.consU fun K' hK' => ?_; simp (disch := omega) only [go_sem, reduceCtorEq, ↓reduceIte, Nat.reduceAdd, Nat.reduceMul, Nat.reduceLT, Nat.reduceLeDiff, Nat.reduceEqDiff, Nat.reduceBEq, Int.reduceToNat]; refine hK' _ ?_; clear hK' K')
                refine AOps.nil ?_
                exact (Sub.mk ⟨rfl, rfl, rfl, rfl, rfl, trivial⟩ ⟨rfl, trivial⟩ ⟨trivial, trivial, trivial, rfl, trivial, trivial⟩ ⟨⟨trivial, trivial⟩, trivial⟩ ⟨rfl, trivial, rfl⟩)
            simp only [List.drop_succ_cons, List.drop_zero]
            iterate 1 (refine AOps.consU fun K' hK' => ?_; simp (disch := omega) only [go_sem, reduceCtorEq, ↓reduceIte, Nat.reduceAdd, Nat.reduceMul, Nat.reduceLT, Nat.reduceLeDiff, Nat.reduceEqDiff, Nat.reduceBEq, Int.reduceToNat]; refine hK' _ ?_; clear hK' K')
            refine AOps.cut 4 (⟨[(0, .d (.int .i64 n1)), (1, .d (.imm 4 (lenc Offer.pd l1))), (5, .d (.int .i64 i1)), (6, .ptr 1000 0 0), (57, .d (.bool ((((((decide (e1.From < 0)) || (decide (n1 ≤ e1.From))) || (decide (e1.To < 0))) || (decide (n1 ≤ e1.To))) || (decide (e1.From = e1.To))) || (decide (e1.Num < 1)))))], [(1000, ⟨43, 4, [.d (.agg [(.int .i64 e1.From), (.int .i64 e1.To), (.int .i64 e1.Num), (.int .i64 e1.Den)])]⟩)], [], none⟩) ?_ ?_
            · simp only [List.take_succ_cons, List.take_zero]
              rcases Bool.eq_false_or_eq_true (((((decide (e1.From < 0)) || (decide (n1 ≤ e1.From))) || (decide (e1.To < 0))) || (decide (n1 ≤ e1.To))) || (decide (e1.From = e1.To))) with hg_41 | hg_41
              · rw [hg_41]
                iterate 4 (refine AOps.consU fun K' hK' => ?_; simp (disch := omega) only [go_sem, reduceCtorEq, ↓reduceIte, Nat.reduceAdd, Nat.reduceMul, Nat.reduceLT, Nat.reduceLeDiff, Nat.reduceEqDiff, Nat.reduceBEq, Int.reduceToNat]; refine hK' _ ?_; clear hK' K')
                refine AOps.nil ?_
                exact (Sub.mk ⟨rfl, rfl, rfl, rfl, rfl, trivial⟩ ⟨rfl, trivial⟩ ⟨trivial, trivial, trivial, rfl, trivial, trivial⟩ ⟨⟨trivial, trivial⟩, trivial⟩ ⟨rfl, trivial, rfl⟩)
              · rw [hg_41]
                iterate 4 (refine AOps.consU fun K' hK' => ?_; simp (disch := omega) only [go_sem, reduceCtorEq, ↓reduceIte, Nat.reduceAdd, Nat.reduceMul, Nat.reduceLT, Nat.reduceLeDiff, Nat.reduceEqDiff, Nat.reduceBEq, Int.reduceToNat]; refine hK' _ ?_; clear hK' K')
                refine AOps.nil ?_
                exact (Sub.mk ⟨rfl, rfl, rfl, rfl, rfl, trivial⟩ ⟨rfl, trivial⟩ ⟨trivial, trivial, trivial, rfl, trivial, trivial⟩ ⟨⟨trivial, trivial⟩, trivial⟩ ⟨rfl, trivial, rfl⟩)
            simp only [List.drop_succ_cons, List.drop_zero]
            iterate 1 (refine AOps.consU fun K' hK' => ?_; simp (disch := omega) only [go_sem, reduceCtorEq, ↓reduceIte, Nat.reduceAdd, Nat.reduceMul, Nat.reduceLT, Nat.reduceLeDiff, Nat.reduceEqDiff, Nat.reduceBEq, Int.reduceToNat]; refine hK' _ ?_; clear hK' K')
            refine AOps.cut 4 (⟨[(0, .d (.int .i64 n1)), (1, .d (.imm 4 (lenc Offer.pd l1))), (5, .d (.int .i64 i1)), (6, .ptr 1000 0 0), (62, .d (.bool (((((((decide (e1.From < 0)) || (decide (n1 ≤ e1.From))) || (decide (e1.To < 0))) || (decide (n1 ≤ e1.To))) || (decide (e1.From = e1.To))) || (decide (e1.Num < 1))) || (decide (50 < e1.Num)))))], [(1000, ⟨43, 4, [.d (.agg [(.int .i64 e1.From), (.int .i64 e1.To), (.int .i64 e1.Num), (.int .i64 e1.Den)])]⟩)], [], none⟩) ?_ ?_
            · simp only [List.take_succ_cons, List.take_zero]
              rcases Bool.eq_false_or_eq_true ((((((decide (e1.From < 0)) || (decide (n1 ≤ e1.From))) || (decide (e1.To < 0))) || (decide (n1 ≤ e1.To))) || (decide (e1.From = e1.To))) || (decide (e1.Num < 1))) with hg_43 | hg_43
              · rw [hg_43]
                iterate 4 (refine AOps.consU fun K' hK' => ?_; simp (disch := omega) only [go_sem, reduceCtorEq, ↓reduceIte, Nat.reduceAdd, Nat.reduceMul, Nat.reduceLT, Nat.reduceLeDiff, Nat.reduceEqDiff, Nat.reduceBEq, Int.reduceToNat]; refine hK' _ ?_; clear hK' K')
                refine AOps.nil ?_
                exact (Sub.mk ⟨rfl, rfl, rfl, rfl, rfl, trivial⟩ ⟨rfl, trivial⟩ ⟨trivial, trivial, trivial, rfl, trivial, trivial⟩ ⟨⟨trivial, trivial⟩, trivial⟩ ⟨rfl, trivial, rfl⟩)
              · rw [hg_43]
                iterate 4 (refine AOps.consU fun K' hK' => ?_; simp (disch := omega) only [go_sem, reduceCtorEq, ↓reduceIte, Nat.reduceAdd, Nat.reduceMul, Nat.reduceLT, Nat.reduceLeDiff, Nat.reduceEqDiff, Nat.reduceBEq, Int.reduceToNat]; refine hK' _ ?_; clear hK' K')
                refine AOps.nil ?_
                exact (Sub.mk ⟨rfl, rfl, rfl, rfl, rfl, trivial⟩ ⟨rfl, trivial⟩ ⟨trivial, trivial, trivial, rfl, trivial, trivial⟩ ⟨⟨trivial, trivial⟩, trivial⟩ ⟨rfl, trivial, rfl⟩)
            simp only [List.drop_succ_cons, List.drop_zero]
            iterate 1 (refine AOps.consU fun K' hK' => ?_; simp (disch := omega) only [go_sem, reduceCtorEq, ↓reduceIte, Nat.reduceAdd, Nat.reduceMul, Nat.reduceLT, Nat.reduceLeDiff, Nat.reduceEqDiff, Nat.reduceBEq, Int.reduceToNat]; refine hK' _ ?_; clear hK' K')
            refine AOps.cut 4 (⟨[(0, .d (.int .i64 n1)), (1, .d (.imm 4 (lenc Offer.pd l1))), (5, .d (.int .i64 i1)), (6, .ptr 1000 0 0), (67, .d (.bool ((((((((decide (e1.From < 0)) || (decide (n1 ≤ e1.From))) || (decide (e1.To < 0))) || (decide (n1 ≤ e1.To))) || (decide (e1.From = e1.To))) || (decide (e1.Num < 1))) || (decide (50 < e1.Num))) || (decide (e1.Den < 1)))))], [(1000, ⟨43, 4, [.d (.agg [(.int .i64 e1.From), (.int .i64 e1.To), (.int .i64 e1.Num), (.int .i64 e1.Den)])]⟩)], [], none⟩) ?_ ?_
            · simp only [List.take_succ_cons, List.take_zero]
              rcases Bool.eq_false_or_eq_true (((((((decide (e1.From < 0)) || (decide (n1 ≤ e1.From))) || (decide (e1.To < 0))) || (decide (n1 ≤ e1.To))) || (decide (e1.From = e1.To))) || (decide (e1.Num < 1))) || (decide (50 < e1.Num))) with hg_45 | hg_45
              · rw [hg_45]
                iterate 4 (refine AOps.consU fun K' hK' => ?_; simp (disch := omega) only [go_sem, reduceCtorEq, ↓reduceIte, Nat.reduceAdd, Nat.reduceMul, Nat.reduceLT, Nat.reduceLeDiff, Nat.reduceEqDiff, Nat.reduceBEq, Int.reduceToNat]; refine hK' _ ?_; clear hK' K')
                refine AOps.nil ?_
                exact (Sub.mk ⟨rfl, rfl, rfl, rfl, rfl, trivial⟩ ⟨rfl, trivial⟩ ⟨trivial, trivial, trivial, rfl, trivial, trivial⟩ ⟨⟨trivial, trivial⟩, trivial⟩ ⟨rfl, trivial, rfl⟩)
              · rw [hg_45]
                iterate 4 (refine AOps.consU fun K' hK' => ?_; simp (disch := omega) only [go_sem, reduceCtorEq, ↓reduceIte, Nat.reduceAdd, Nat.reduceMul, Nat.reduceLT, Nat.reduceLeDiff, Nat.reduceEqDiff, Nat.reduceBEq, Int.reduceToNat]; refine hK' _ ?_; clear hK' K')
                refine AOps.nil ?_
                exact (Sub.mk ⟨rfl, rfl, rfl, rfl, rfl, trivial⟩ ⟨rfl, trivial⟩ ⟨trivial, trivial, trivial, rfl, trivial, trivial⟩ ⟨⟨trivial, trivial⟩, trivial⟩ ⟨rfl, trivial, rfl⟩)
            simp only [List.drop_succ_cons, List.drop_zero]
            iterate 1 (refine AOps.consU fun K' hK' => ?_; simp (disch := omega) only [go_sem, reduceCtorEq, ↓reduceIte, Nat.reduceAdd, Nat.reduceMul, Nat.reduceLT, Nat.reduceLeDiff, Nat.reduceEqDiff, Nat.reduceBEq, Int.reduceToNat]; refine hK' _ ?_; clear hK' K')
            refine AOps.cut 4 (⟨[(0, .d (.int .i64 n1)), (1, .d (.imm 4 (lenc Offer.pd l1))), (5, .d (.int .i64 i1)), (72, .d (.bool (((((((((decide (e1.From < 0)) || (decide (n1 ≤ e1.From))) || (decide (e1.To < 0))) || (decide (n1 ≤ e1.To))) || (decide (e1.From = e1.To))) || (decide (e1.Num < 1))) || (decide (50 < e1.Num))) || (decide (e1.Den < 1))) || (decide (50 < e1.Den)))))], [], [], none⟩) ?_ ?_
            · simp only [List.take_succ_cons, List.take_zero]
              rcases Bool.eq_false_or_eq_true ((((((((decide (e1.From < 0)) || (decide (n1 ≤ e1.From))) || (decide (e1.To < 0))) || (decide (n1 ≤ e1.To))) || (decide (e1.From = e1.To))) || (decide (e1.Num < 1))) || (decide (50 < e1.Num))) || (decide (e1.Den < 1))) with hg_47 | hg_47
              · rw [hg_47]
                iterate 4 (refine AOps.consU fun K' hK' => ?_; simp (disch := omega) only [go_sem, reduceCtorEq, ↓reduceIte, Nat.reduceAdd, Nat.reduceMul, Nat.reduceLT, Nat.reduceLeDiff, Nat.reduceEqDiff, Nat.reduceBEq, Int.reduceToNat]; refine hK' _ ?_; clear hK' K')
                refine AOps.nil ?_
                exact (Sub.mk ⟨rfl, rfl, rfl, rfl, trivial⟩ trivial ⟨trivial, trivial, trivial, trivial, trivial⟩ trivial ⟨rfl, trivial, rfl⟩)
              · rw [hg_47]
                iterate 4 (refine AOps.consU fun K' hK' => ?_; simp (disch := omega) only [go_sem, reduceCtorEq, ↓reduceIte, Nat.reduceAdd, Nat.reduceMul, Nat.reduceLT, Nat.reduceLeDiff, Nat.reduceEqDiff, Nat.reduceBEq, Int.reduceToNat]; refine hK' _ ?_; clear hK' K')
                refine AOps.nil ?_
                exact (Sub.mk ⟨rfl, rfl, rfl, rfl, trivial⟩ trivial ⟨trivial, trivial, trivial, trivial, trivial⟩ trivial ⟨rfl, trivial, rfl⟩)
            simp only [List.drop_succ_cons, List.drop_zero]
            refine AOps.nil ?_
            simp only [Post.then]
            refine hK_31 _ ?_
            clear hK_31 K_31
            refine AWp.cond (b := (((((((((decide (e1.From < 0)) || (decide (n1 ≤ e1.From))) || (decide (e1.To < 0))) || (decide (n1 ≤ e1.To))) || (decide (e1.From = e1.To))) || (decide (e1.Num < 1))) || (decide (50 < e1.Num))) || (decide (e1.Den < 1))) || (decide (50 < e1.Den)))) (by rfl) (fun hb_48 => ?_) (fun hb_48 => ?_)
            · rw [hb_48, cond_true] at hb_18
              refine AWp.seq fun K_49 hK_49 => AWp.reg ?_
              iterate 1 (refine AOps.consU fun K' hK' => ?_; simp (disch := omega) only [go_sem, reduceCtorEq, ↓reduceIte, Nat.reduceAdd, Nat.reduceMul, Nat.reduceLT, Nat.reduceLeDiff, Nat.reduceEqDiff, Nat.reduceBEq, Int.reduceToNat]; refine hK' _ ?_; clear hK' K')
              refine AOps.nil ?_
              simp only [Post.then]
              refine hK_49 _ ?_
              clear hK_49 K_49
              refine AWp.ret ?_
              simp only [Post.then, Post.inBlock, Go.Pv.Fin, Go.Pv.FinG]
              rw [← Option.some.inj hb_18] at hl_16
              try dsimp only at hl_16
              rw [← Option.some.inj hl_16] at h2_17
              try dsimp only at h2_17
              rw [← Option.some.inj h2_17] at h
              try dsimp only at h
              rw [← Option.some.inj h]
              refine ⟨.d (.int .i64 2), ?_, (by first | exact True.intro | rfl), .d (.int .i64 2), ?_, ?_⟩
              · simp only [go_sem, Tryd.results28, List.length_append, List.length_set, List.length_replicate, reduceCtorEq, ↓reduceIte, Nat.reduceAdd, Nat.reduceMul, Nat.reduceLT, Nat.reduceLeDiff, Nat.reduceEqDiff, Nat.reduceBEq, Int.reduceToNat]
              · simp only [go_sem, lenc_nil, List.take_length, List.length_append, List.length_set, List.length_replicate, reduceCtorEq, ↓reduceIte, Nat.reduceAdd, Nat.reduceMul, Nat.reduceLT, Nat.reduceLeDiff, Nat.reduceEqDiff, Nat.reduceBEq, Int.reduceToNat]
              · (first | exact leV_refl _ | (simp only [go_sem, leV, leVL, leD, leDL, lenc_nil, leD_refl, leDL_refl, lstD_le, reduceCtorEq, ↓reduceIte, Nat.reduceAdd, Nat.reduceMul, Nat.reduceLT, Nat.reduceLeDiff, Nat.reduceEqDiff, Nat.reduceBEq, Int.reduceToNat]; done))
            · rw [hb_48, cond_false] at hb_18
              refine AWp.skip ?_
              simp only [Post.then, Post.inBlock, ↓reduceIte, Nat.reduceEqDiff]
              refine hK_24 _ ?_
              clear hK_24 K_24
              refine AWp.reg ?_
              iterate 3 (refine AOps.consU fun K' hK' => ?_; simp (disch := omega) only [go_sem, reduceCtorEq, ↓reduceIte, Nat.reduceAdd, Nat.reduceMul, Nat.reduceLT, Nat.reduceLeDiff, Nat.reduceEqDiff, Nat.reduceBEq, Int.reduceToNat]; refine hK' _ ?_; clear hK' K')
              refine AOps.nil ?_
              simp only [Post.then, Post.inBlock, ↓reduceIte, Nat.reduceEqDiff]
              rw [← Option.some.inj hb_18] at hl_16
              try dsimp only at hl_16
              exact ⟨(n_15, (IntKind.i64.wrap (i1 + 1))), hl_16, Nat.lt_succ_self n_15, (Sub.mk ⟨rfl, rfl, rfl, trivial⟩ trivial ⟨trivial, trivial, trivial, trivial⟩ trivial ⟨rfl, trivial, rfl⟩)⟩
          · rw [hb_23, cond_false] at hb_18
            refine AWp.exit ?_
            simp only [Post.then, Post.inBlock, ↓reduceIte, Nat.reduceEqDiff]
            rw [← Option.some.inj hb_18] at hl_16
            try dsimp only at hl_16
            rw [← Option.some.inj hl_16] at h2_17
            try dsimp only at h2_17
            exact ⟨(), (Option.some.inj h2_17).symm, (Sub.mk trivial trivial trivial trivial ⟨rfl, trivial, rfl⟩)⟩
      · rintro _ hx_54
        rw [hx_54] at h
        try dsimp only at h
        try dsimp only
        refine AWp.seq fun K_52 hK_52 => AWp.reg ?_
        iterate 1 (refine AOps.consU fun K' hK' => ?_; simp (disch := omega) only [go_sem, reduceCtorEq, ↓reduceIte, Nat.reduceAdd, Nat.reduceMul, Nat.reduceLT, Nat.reduceLeDiff, Nat.reduceEqDiff, Nat.reduceBEq, Int.reduceToNat]; refine hK' _ ?_; clear hK' K')
        refine AOps.nil ?_
        simp only [Post.then]
        refine hK_52 _ ?_
        clear hK_52 K_52
        refine AWp.ret ?_
        simp only [Post.then, Post.inBlock, Go.Pv.Fin, Go.Pv.FinG]
        rw [← Option.some.inj h]
        refine ⟨.d (.int .i64 0), ?_, (by first | exact True.intro | rfl), .d (.int .i64 0), ?_, ?_⟩
        · simp only [go_sem, Tryd.results28, List.length_append, List.length_set, List.length_replicate, reduceCtorEq, ↓reduceIte, Nat.reduceAdd, Nat.reduceMul, Nat.reduceLT, Nat.reduceLeDiff, Nat.reduceEqDiff, Nat.reduceBEq, Int.reduceToNat]
        · simp only [go_sem, lenc_nil, List.take_length, List.length_append, List.length_set, List.length_replicate, reduceCtorEq, ↓reduceIte, Nat.reduceAdd, Nat.reduceMul, Nat.reduceLT, Nat.reduceLeDiff, Nat.reduceEqDiff, Nat.reduceBEq, Int.reduceToNat]
        · (first | exact leV_refl _ | (simp only [go_sem, leV, leVL, leD, leDL, lenc_nil, leD_refl, leDL_refl, lstD_le, reduceCtorEq, ↓reduceIte, Nat.reduceAdd, Nat.reduceMul, Nat.reduceLT, Nat.reduceLeDiff, Nat.reduceEqDiff, Nat.reduceBEq, Int.reduceToNat]; done))

end Go.Pv.Tryd

namespace Go.Pv.Tryd
open Go.Proofs Go.Pv

theorem m_cocketref01_Walk_ok (l1 : (List Offer)) (w1 : (List Int)) (r : Bool) (h : m_cocketref01_Walk l1 w1 = some r) : PureFn Tryd.prog G 42 [.d (.imm 4 (lenc Offer.pd l1)), .d (.imm 1 (lenc (PD.int .i64) w1))] (.d (.bool r)) := by
  unfold m_cocketref01_Walk at h
  refine PureFn.intro2 Tryd.func42 (by rfl) (by rw [Tryd.ntmps42]; simp) ?_
  rw [Tryd.ntmps42]
  simp only [argEnv, reduceCtorEq, ↓reduceIte, Nat.reduceAdd, Nat.reduceMul, Nat.reduceLT, Nat.reduceLeDiff, Nat.reduceEqDiff, Nat.reduceBEq, Int.reduceToNat]
  refine AWp.seq fun K_1 hK_1 => AWp.reg ?_
  iterate 1 (refine AOps.consU fun K' hK' => ?_; simp (disch := omega) only [go_sem, reduceCtorEq, ↓reduceIte, Nat.reduceAdd, Nat.reduceMul, Nat.reduceLT, Nat.reduceLeDiff, Nat.reduceEqDiff, Nat.reduceBEq, Int.reduceToNat]; refine hK' _ ?_; clear hK' K')
  refine AOps.nil ?_
  simp only [Post.then]
  refine hK_1 _ ?_
  clear hK_1 K_1
  obtain ⟨o_2, hj_3, h⟩ := bind_some h
  refine AWp.seqI (fun i_53 : Unit => ⟨[], [], [], none⟩) (fun i_53 => o_2 = (.inl i_53)) ?_ ?_
  · refine AWp.seq fun K_4 hK_4 => AWp.reg ?_
    iterate 1 (refine AOps.consU fun K' hK' => ?_; simp (disch := omega) only [go_sem, reduceCtorEq, ↓reduceIte, Nat.reduceAdd, Nat.reduceMul, Nat.reduceLT, Nat.reduceLeDiff, Nat.reduceEqDiff, Nat.reduceBEq, Int.reduceToNat]; refine hK' _ ?_; clear hK' K')
    refine AOps.nil ?_
    simp only [Post.then]
    refine hK_4 _ ?_
    clear hK_4 K_4
    refine AWp.block ?_
    obtain ⟨x_9, hl_6, h2_7⟩ := bind_some hj_3
    obtain ⟨n_5, hl_6⟩ := iter_some hl_6
    refine AWp.loopI (fun i_51 : Nat × Int => ⟨[(0, .d (.imm 4 (lenc Offer.pd l1))), (1, .d (.imm 1 (lenc (PD.int .i64) w1))), (5, .d (.int .i64 i_51.2))], [], [], none⟩) (fun i_51 => iterN (m_cocketref01_Walk_l1 l1 w1) i_51.1 i_51.2 = some x_9) (fun i_51 => i_51.1) (n_5, 0) hl_6 (Sub.mk ⟨rfl, rfl, rfl, trivial⟩ trivial ⟨trivial, trivial, trivial, trivial⟩ trivial ⟨rfl, trivial, rfl⟩) ?_
    clear hl_6
    rintro ⟨n_5, i1⟩ hl_6
    try dsimp only at hl_6
    try dsimp only
    cases n_5 with
    | zero => cases hl_6
    | succ n_5 =>
      rw [iterN_succ] at hl_6
      obtain ⟨ob_10, hb_8, hl_6⟩ := bind_some hl_6
      unfold m_cocketref01_Walk_l1 at hb_8
      try dsimp only at hb_8
      refine AWp.seq fun K_11 hK_11 => ?_
      refine AWp.seq fun K_12 hK_12 => AWp.reg ?_
      iterate 4 (refine AOps.consU fun K' hK' => ?_; simp (disch := omega) only [go_sem, reduceCtorEq, ↓reduceIte, Nat.reduceAdd, Nat.reduceMul, Nat.reduceLT, Nat.reduceLeDiff, Nat.reduceEqDiff, Nat.reduceBEq, Int.reduceToNat]; refine hK' _ ?_; clear hK' K')
      refine AOps.nil ?_
      simp only [Post.then]
      refine hK_12 _ ?_
      clear hK_12 K_12
      refine AWp.cond (b := (decide (i1 < (w1.length : Int)))) (by rfl) (fun hb_13 => ?_) (fun hb_13 => ?_)
      · rw [hb_13, cond_true] at hb_8
        refine AWp.skip ?_
        simp only [Post.then, Post.inBlock, ↓reduceIte, Nat.reduceEqDiff]
        refine hK_11 _ ?_
        clear hK_11 K_11
        refine AWp.seq fun K_14 hK_14 => ?_
        refine AWp.block ?_
        refine AWp.seq fun K_15 hK_15 => AWp.draw mo [] (by trivial) ?_
        obtain ⟨e1, hx_16, hb_8⟩ := bind_some hb_8
        obtain ⟨f_17, f_18, f_19, f_20⟩ := idx_some hx_16
        iterate 6 (refine DOps.consU fun K' hK' => ?_; simp (disch := omega) only [go_sem, f_19, reduceCtorEq, ↓reduceIte, Nat.reduceAdd, Nat.reduceMul, Nat.reduceLT, Nat.reduceLeDiff, Nat.reduceEqDiff, Nat.reduceBEq, Int.reduceToNat]; refine hK' _ _ ?_; clear hK' K'; simp only [List.nil_append, List.cons_append])
        rcases Bool.eq_false_or_eq_true (decide (e1 < 0)) with hg_21 | hg_21
        · rw [hg_21]
          rw [hg_21, cond_true] at hb_8
          iterate 32 (refine DOps.consU fun K' hK' => ?_; simp (disch := omega) only [go_sem, f_19, reduceCtorEq, ↓reduceIte, Nat.reduceAdd, Nat.reduceMul, Nat.reduceLT, Nat.reduceLeDiff, Nat.reduceEqDiff, Nat.reduceBEq, Int.reduceToNat]; refine hK' _ _ ?_; clear hK' K'; simp only [List.nil_append, List.cons_append])
          refine DOps.nil (by kernel_rfl) ?_
          simp only [Post.then]
          refine hK_15 _ ?_
          clear hK_15 K_15
          refine AWp.cond (b := true) (by rfl) (fun hb_22 => ?_) (fun hb_22 => ?_)
          · refine AWp.seq fun K_23 hK_23 => AWp.reg ?_
            iterate 1 (refine AOps.consU fun K' hK' => ?_; simp (disch := omega) only [go_sem, reduceCtorEq, ↓reduceIte, Nat.reduceAdd, Nat.reduceMul, Nat.reduceLT, Nat.reduceLeDiff, Nat.reduceEqDiff, Nat.reduceBEq, Int.reduceToNat]; refine hK' _ ?_; clear hK' K')
            refine AOps.nil ?_
            simp only [Post.then]
            refine hK_23 _ ?_
            clear hK_23 K_23
            refine AWp.ret ?_
            simp only [Post.then, Post.inBlock, Go.Pv.Fin, Go.Pv.FinG]
            rw [← Option.some.inj hb_8] at hl_6
            try dsimp only at hl_6
            rw [← Option.some.inj hl_6] at h2_7
            try dsimp only at h2_7
            rw [← Option.some.inj h2_7] at h
            try dsimp only at h
            rw [← Option.some.inj h]
            refine ⟨.d (.bool false), ?_, (by first | exact True.intro | rfl), .d (.bool false), ?_, ?_⟩
            · simp only [go_sem, Tryd.results42, List.length_append, List.length_set, List.length_replicate, reduceCtorEq, ↓reduceIte, Nat.reduceAdd, Nat.reduceMul, Nat.reduceLT, Nat.reduceLeDiff, Nat.reduceEqDiff, Nat.reduceBEq, Int.reduceToNat]
            · simp only [go_sem, lenc_nil, List.take_length, List.length_append, List.length_set, List.length_replicate, reduceCtorEq, ↓reduceIte, Nat.reduceAdd, Nat.reduceMul, Nat.reduceLT, Nat.reduceLeDiff, Nat.reduceEqDiff, Nat.reduceBEq, Int.reduceToNat]
            · (first | exact leV_refl _ | (simp only [go_sem, leV, leVL, leD, leDL, lenc_nil, leD_refl, leDL_refl, lstD_le, reduceCtorEq, ↓reduceIte, Nat.reduceAdd, Nat.reduceMul, Nat.reduceLT, Nat.reduceLeDiff, Nat.reduceEqDiff, Nat.reduceBEq, Int.reduceToNat]; done))
          · cases hb_22
        · rw [hg_21]
          rw [hg_21, cond_false] at hb_8
          iterate 9 (refine DOps.consU fun K' hK' => ?_; simp (disch := omega) only [go_sem, f_19, reduceCtorEq, ↓reduceIte, Nat.reduceAdd, Nat.reduceMul, Nat.reduceLT, Nat.reduceLeDiff, Nat.reduceEqDiff, Nat.reduceBEq, Int.reduceToNat]; refine hK' _ _ ?_; clear hK' K'; simp only [List.nil_append, List.cons_append])
          rcases Bool.eq_false_or_eq_true (decide ((l1.length : Int) ≤ e1)) with hg_25 | hg_25
          · rw [hg_25]
            rw [hg_25, cond_true] at hb_8
            iterate 23 (refine DOps.consU fun K' hK' => ?_; simp (disch := omega) only [go_sem, f_19, reduceCtorEq, ↓reduceIte, Nat.reduceAdd, Nat.reduceMul, Nat.reduceLT, Nat.reduceLeDiff, Nat.reduceEqDiff, Nat.reduceBEq, Int.reduceToNat]; refine hK' _ _ ?_; clear hK' K'; simp only [List.nil_append, List.cons_append])
            refine DOps.nil (by kernel_rfl) ?_
            simp only [Post.then]
            refine hK_15 _ ?_
            clear hK_15 K_15
            refine AWp.cond (b := true) (by rfl) (fun hb_26 => ?_) (fun hb_26 => ?_)
            · refine AWp.seq fun K_27 hK_27 => AWp.reg ?_
              iterate 1 (refine AOps.consU fun K' hK' => ?_; simp (disch := omega) only [go_sem, reduceCtorEq, ↓reduceIte, Nat.reduceAdd, Nat.reduceMul, Nat.reduceLT, Nat.reduceLeDiff, Nat.reduceEqDiff, Nat.reduceBEq, Int.reduceToNat]; refine hK' _ ?_; clear hK' K')
              refine AOps.nil ?_
              simp only [Post.then]
              refine hK_27 _ ?_
              clear hK_27 K_27
              refine AWp.ret ?_
              simp only [Post.then, Post.inBlock, Go.Pv.Fin, Go.Pv.FinG]
              rw [← Option.some.inj hb_8] at hl_6
              try dsimp only at hl_6
              rw [← Option.some.inj hl_6] at h2_7
              try dsimp only at h2_7
              rw [← Option.some.inj h2_7] at h
              try dsimp only at h
              rw [← Option.some.inj h]
              refine ⟨.d (.bool false), ?_, (by first | exact True.intro | rfl), .d (.bool false), ?_, ?_⟩
              · simp only [go_sem, Tryd.results42, List.length_append, List.length_set, List.length_replicate, reduceCtorEq, ↓reduceIte, Nat.reduceAdd, Nat.reduceMul, Nat.reduceLT, Nat.reduceLeDiff, Nat.reduceEqDiff, Nat.reduceBEq, Int.reduceToNat]
              · simp only [go_sem, lenc_nil, List.take_length, List.length_append, List.length_set, List.length_replicate, reduceCtorEq, ↓reduceIte, Nat.reduceAdd, Nat.reduceMul, Nat.reduceLT, Nat.reduceLeDiff, Nat.reduceEqDiff, Nat.reduceBEq, Int.reduceToNat]
              · (first | exact leV_refl _ | (simp only [go_sem, leV, leVL, leD, leDL, lenc_nil, leD_refl, leDL_refl, lstD_le, reduceCtorEq, ↓reduceIte, Nat.reduceAdd, Nat.reduceMul, Nat.reduceLT, Nat.reduceLeDiff, Nat.reduceEqDiff, Nat.reduceBEq, Int.reduceToNat]; done))
            · cases hb_26
          · rw [hg_25]
            rw [hg_25, cond_false] at hb_8
            iterate 3 (refine DOps.consU fun K' hK' => ?_; simp (disch := omega) only [go_sem, f_19, reduceCtorEq, ↓reduceIte, Nat.reduceAdd, Nat.reduceMul, Nat.reduceLT, Nat.reduceLeDiff, Nat.reduceEqDiff, Nat.reduceBEq, Int.reduceToNat]; refine hK' _ _ ?_; clear hK' K'; simp only [List.nil_append, List.cons_append])
            rcases Bool.eq_false_or_eq_true (decide (0 < i1)) with hg_29 | hg_29
            · rw [hg_29]
              rw [hg_29, cond_true] at hb_8
              obtain ⟨e2, hx_30, hb_8⟩ := bind_some hb_8
              obtain ⟨f_31, f_32, f_33, f_34⟩ := idx_some hx_30
              obtain ⟨e3, hx_35, hb_8⟩ := bind_some hb_8
              obtain ⟨f_36, f_37, f_38, f_39⟩ := idx_some hx_35
              obtain ⟨e4, hx_40, hb_8⟩ := bind_some hb_8
              obtain ⟨f_41, f_42, f_43, f_44⟩ := idx_some hx_40
              iterate 20 (refine DOps.consU fun K' hK' => ?_; simp (disch := omega) only [go_sem, f_19, f_33, f_38, f_43, reduceCtorEq, ↓reduceIte, Nat.reduceAdd, Nat.reduceMul, Nat.reduceLT, Nat.reduceLeDiff, Nat.reduceEqDiff, Nat.reduceBEq, Int.reduceToNat]; refine hK' _ _ ?_; clear hK' K'; simp only [List.nil_append, List.cons_append])
              refine DOps.nil (by kernel_rfl) ?_
              simp only [Post.then]
              refine hK_15 _ ?_
              clear hK_15 K_15
              refine AWp.cond (b := (decide (¬e3.To = e4.From))) (by rfl) (fun hb_45 => ?_) (fun hb_45 => ?_)
              · rw [hb_45, cond_true] at hb_8
                refine AWp.seq fun K_46 hK_46 => AWp.reg ?_
                iterate 1 (refine AOps.consU fun K' hK' => ?_; simp (disch := omega) only [go_sem, reduceCtorEq, ↓reduceIte, Nat.reduceAdd, Nat.reduceMul, Nat.reduceLT, Nat.reduceLeDiff, Nat.reduceEqDiff, Nat.reduceBEq, Int.reduceToNat]; refine hK' _ ?_; clear hK' K')
                refine AOps.nil ?_
                simp only [Post.then]
                refine hK_46 _ ?_
                clear hK_46 K_46
                refine AWp.ret ?_
                simp only [Post.then, Post.inBlock, Go.Pv.Fin, Go.Pv.FinG]
                rw [← Option.some.inj hb_8] at hl_6
                try dsimp only at hl_6
                rw [← Option.some.inj hl_6] at h2_7
                try dsimp only at h2_7
                rw [← Option.some.inj h2_7] at h
                try dsimp only at h
                rw [← Option.some.inj h]
                refine ⟨.d (.bool false), ?_, (by first | exact True.intro | rfl), .d (.bool false), ?_, ?_⟩
                · simp only [go_sem, Tryd.results42, List.length_append, List.length_set, List.length_replicate, reduceCtorEq, ↓reduceIte, Nat.reduceAdd, Nat.reduceMul, Nat.reduceLT, Nat.reduceLeDiff, Nat.reduceEqDiff, Nat.reduceBEq, Int.reduceToNat]
                · simp only [go_sem, lenc_nil, List.take_length, List.length_append, List.length_set, List.length_replicate, reduceCtorEq, ↓reduceIte, Nat.reduceAdd, Nat.reduceMul, Nat.reduceLT, Nat.reduceLeDiff, Nat.reduceEqDiff, Nat.reduceBEq, Int.reduceToNat]
                · (first | exact leV_refl _ | (simp only [go_sem, leV, leVL, leD, leDL, lenc_nil, leD_refl, leDL_refl, lstD_le, reduceCtorEq, ↓reduceIte, Nat.reduceAdd, Nat.reduceMul, Nat.reduceLT, Nat.reduceLeDiff, Nat.reduceEqDiff, Nat.reduceBEq, Int.reduceToNat]; done))
              · rw [hb_45, cond_false] at hb_8
                refine AWp.skip ?_
                simp only [Post.then, Post.inBlock, ↓reduceIte, Nat.reduceEqDiff]
                refine hK_14 _ ?_
                clear hK_14 K_14
                refine AWp.reg ?_
                iterate 3 (refine AOps.consU fun K' hK' => ?_; simp (disch := omega) only [go_sem, reduceCtorEq, ↓reduceIte, Nat.reduceAdd, Nat.reduceMul, Nat.reduceLT, Nat.reduceLeDiff, Nat.reduceEqDiff, Nat.reduceBEq, Int.reduceToNat]; refine hK' _ ?_; clear hK' K')
                refine AOps.nil ?_
                simp only [Post.then, Post.inBlock, ↓reduceIte, Nat.reduceEqDiff]
                rw [← Option.some.inj hb_8] at hl_6
                try dsimp only at hl_6
                exact ⟨(n_5, (IntKind.i64.wrap (i1 + 1))), hl_6, Nat.lt_succ_self n_5, (Sub.mk ⟨rfl, rfl, rfl, trivial⟩ trivial ⟨trivial, trivial, trivial, trivial⟩ trivial ⟨rfl, trivial, rfl⟩)⟩
            · rw [hg_29]
              rw [hg_29, cond_false] at hb_8
              iterate 20 (refine DOps.consU fun K' hK' => ?_; simp (disch := omega) only [go_sem, f_19, reduceCtorEq, ↓reduceIte, Nat.reduceAdd, Nat.reduceMul, Nat.reduceLT, Nat.reduceLeDiff, Nat.reduceEqDiff, Nat.reduceBEq, Int.reduceToNat]; refine hK' _ _ ?_; clear hK' K'; simp only [List.nil_append, List.cons_append])
              refine DOps.nil (by kernel_rfl) ?_
              simp only [Post.then]
              refine hK_15 _ ?_
              clear hK_15 K_15
              refine AWp.cond (b := false) (by rfl) (fun hb_48 => ?_) (fun hb_48 => ?_)
              · cases hb_48
              · refine AWp.skip ?_
                simp only [Post.then, Post.inBlock, ↓reduceIte, Nat.reduceEqDiff]
                refine hK_14 _ ?_
                clear hK_14 K_14
                refine AWp.reg ?_
                iterate 3 (refine AOps.consU fun K' hK' => ?_; simp (disch := omega) only [go_sem, reduceCtorEq, ↓reduceIte, Nat.reduceAdd, Nat.reduceMul, Nat.reduceLT, Nat.reduceLeDiff, Nat.reduceEqDiff, Nat.reduceBEq, Int.reduceToNat]; refine hK' _ ?_; clear hK' K')
                refine AOps.nil ?_
                simp only [Post.then, Post.inBlock, ↓reduceIte, Nat.reduceEqDiff]
                rw [← Option.some.inj hb_8] at hl_6
                try dsimp only at hl_6
                exact ⟨(n_5, (IntKind.i64.wrap (i1 + 1))), hl_6, Nat.lt_succ_self n_5, (Sub.mk ⟨rfl, rfl, rfl, trivial⟩ trivial ⟨trivial, trivial, trivial, trivial⟩ trivial ⟨rfl, trivial, rfl⟩)⟩
      · rw [hb_13, cond_false] at hb_8
        refine AWp.exit ?_
        simp only [Post.then, Post.inBlock, ↓reduceIte, Nat.reduceEqDiff]
        rw [← Option.some.inj hb_8] at hl_6
        try dsimp only at hl_6
        rw [← Option.some.inj hl_6] at h2_7
        try dsimp only at h2_7
        exact ⟨(), (Option.some.inj h2_7).symm, (Sub.mk trivial trivial trivial trivial ⟨rfl, trivial, rfl⟩)⟩
  · rintro _ hx_54
    rw [hx_54] at h
    try dsimp only at h
    try dsimp only
    refine AWp.seq fun K_52 hK_52 => AWp.reg ?_
    iterate 1 (refine AOps.consU fun K' hK' => ?_; simp (disch := omega) only [go_sem, reduceCtorEq, ↓reduceIte, Nat.reduceAdd, Nat.reduceMul, Nat.reduceLT, Nat.reduceLeDiff, Nat.reduceEqDiff, Nat.reduceBEq, Int.reduceToNat]; refine hK' _ ?_; clear hK' K')
    refine AOps.nil ?_
    simp only [Post.then]
    refine hK_52 _ ?_
    clear hK_52 K_52
    refine AWp.ret ?_
    simp only [Post.then, Post.inBlock, Go.Pv.Fin, Go.Pv.FinG]
    rw [← Option.some.inj h]
    refine ⟨.d (.bool true), ?_, (by first | exact True.intro | rfl), .d (.bool true), ?_, ?_⟩
    · simp only [go_sem, Tryd.results42, List.length_append, List.length_set, List.length_replicate, reduceCtorEq, ↓reduceIte, Nat.reduceAdd, Nat.reduceMul, Nat.reduceLT, Nat.reduceLeDiff, Nat.reduceEqDiff, Nat.reduceBEq, Int.reduceToNat]
    · simp only [go_sem, lenc_nil, List.take_length, List.length_append, List.length_set, List.length_replicate, reduceCtorEq, ↓reduceIte, Nat.reduceAdd, Nat.reduceMul, Nat.reduceLT, Nat.reduceLeDiff, Nat.reduceEqDiff, Nat.reduceBEq, Int.reduceToNat]
    · (first | exact leV_refl _ | (simp only [go_sem, leV, leVL, leD, leDL, lenc_nil, leD_refl, leDL_refl, lstD_le, reduceCtorEq, ↓reduceIte, Nat.reduceAdd, Nat.reduceMul, Nat.reduceLT, Nat.reduceLeDiff, Nat.reduceEqDiff, Nat.reduceBEq, Int.reduceToNat]; done))

end Go.Pv.Tryd

