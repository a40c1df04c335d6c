/- RateNeedless answers true for every input, as its tied card says: under the conditions of the card (Rows, Cards, Tie), no more. Part 5 of 5: by one AI agent and its programs; no person has read it. -/
import Derived.Test.YtmnemlihimnofaaDoorRateNeedlessA
import Derived.Test.YtmnemlihimnofaaDoorRateNeedlessB
import Derived.Test.YtmnemlihimnofaaDoorRateNeedlessC
import Derived.Test.YtmnemlihimnofaaDoorRateNeedlessD
import Derived.Test.YtmnemlihimnofaaDoorCards
import Derived.Test.YtmnemlihimnofaaDoorTie
import Derived.SevenTiedAt
set_option linter.unusedSimpArgs false
set_option linter.unusedVariables false
set_option linter.all false

set_option linter.unusedSimpArgs false
set_option linter.unusedVariables false
namespace Go.Pv.Tryd
open Go.Proofs Go.Pv
def addOf (offers : List Offer) (frm length : Int) (rounds : Bool) (k : Nat) (w : Walk) (s : List Bool) (oi : Offer × Nat) : List Walk :=
  if walkSkip frm length rounds w (s.set w.to.toNat true) oi.1 = true then []
  else walkOn offers frm length rounds k ⟨w.list ++ [(oi.2 : Int)], timesN w.rate (ratioN oi.1.Num oi.1.Den), oi.1.To⟩ (s.set w.to.toNat true)
def ysOf (offers : List Offer) (frm length : Int) (rounds : Bool) (k : Nat) (w : Walk) (s : List Bool) (i : Nat) : List Walk := (offers.zipIdx.take i).flatMap (addOf offers frm length rounds k w s)
theorem ysOf_zero (offers : List Offer) (frm length : Int) (rounds : Bool) (k : Nat) (w : Walk) (s : List Bool) : ysOf offers frm length rounds k w s 0 = [] := rfl
theorem ysOf_succ {offers : List Offer} {frm length : Int} {rounds : Bool} {k : Nat} {w : Walk} {s : List Bool} {i : Nat} {o : Offer} (h : offers[i]? = some o) :
    ysOf offers frm length rounds k w s (i + 1) = ysOf offers frm length rounds k w s i ++ addOf offers frm length rounds k w s (o, i) := by
  have hz : offers.zipIdx[i]? = some (o, i) := by simp [List.getElem?_zipIdx, h]
  unfold ysOf
  rw [List.take_add_one, hz]
  simp [List.flatMap_append]
theorem ysOf_all (offers : List Offer) (frm length : Int) (rounds : Bool) (k : Nat) (w : Walk) (s : List Bool) : ysOf offers frm length rounds k w s offers.length = offers.zipIdx.flatMap (addOf offers frm length rounds k w s) := by
  unfold ysOf
  rw [List.take_of_length_le (by simp)]
theorem ysOf_pre {offers : List Offer} {frm length : Int} {rounds : Bool} {k : Nat} {w : Walk} {s : List Bool} {i : Nat} : ∃ r, offers.zipIdx.flatMap (addOf offers frm length rounds k w s) = ysOf offers frm length rounds k w s i ++ r := by
  refine ⟨(offers.zipIdx.drop i).flatMap (addOf offers frm length rounds k w s), ?_⟩
  unfold ysOf
  rw [← List.flatMap_append, List.take_append_drop]
def headOn (m : Market) (frm length : Int) (rounds : Bool) (l : Nat) (all xs : List PD) (k : Nat) (w : Walk) (s : List Bool) (i : Nat) : St :=
  ⟨[(1, .dptr 1 [.int .i64 length] 0 0), (2, .dptr 1 [.int .i64 frm] 0 0), (3, .dptr 1 [.bool rounds] 0 0), (5, .ptr 2 0 0), (7, .ptr 4 0 0), (8, .ptr 1000 0 0), (35, .d (.imm 4 (lenc Offer.pd m.offers))), (36, .d (.int .i64 m.offers.length)), (37, .d (.int .i64 i))],
   heapIn m frm length rounds l m.n.toNat (s.set w.to.toNat true) w, [.func (.func 95) [.ptr 2 0 0, .ptr 1000 0 0]], some (l, all, xs ++ lenc Walk.pd (ysOf m.offers frm length rounds k w s i), true)⟩
theorem heapIn_refs (m : Market) (frm length : Int) (rounds : Bool) (l n : Nat) (s : List Bool) (w : Walk) : heapRefs (heapIn m frm length rounds l n s w) (heapIn m frm length rounds l n s w) := by
  simp only [heapIn, capsOn, go_sem, ↓reduceIte]
theorem on_step (m : Market) (frm length : Int) (rounds : Bool) (l : Nat) (all : List PD) (hpre : walksPre m frm length rounds = true) (k : Nat) (w : Walk) (s : List Bool) (xs : List PD) (hk : OnOk m length w s (k + 1)) (he : ¬ (w.list.length : Int) = length)
    (ih : ∀ (w' : Walk) (s' : List Bool) (xs' : List PD), OnOk m length w' s' k → xs' ++ lenc Walk.pd (walkOn m.offers frm length rounds k w' s') <+: all →
      FnG Tryd.prog G 94 (.d w'.pd :: capsOn m frm length rounds) (heapOn m frm length rounds l m.n.toNat s') (some (l, all, xs', true)) (OnPost (lenc Walk.pd (walkOn m.offers frm length rounds k w' s')) (heapOn m frm length rounds l m.n.toNat s') l all xs'))
    (hall : xs ++ lenc Walk.pd (walkOn m.offers frm length rounds (k + 1) w s) <+: all) :
    FnG Tryd.prog G 94 (.d w.pd :: capsOn m frm length rounds) (heapOn m frm length rounds l m.n.toNat s) (some (l, all, xs, true)) (OnPost (lenc Walk.pd (walkOn m.offers frm length rounds (k + 1) w s)) (heapOn m frm length rounds l m.n.toNat s) l all xs) := by
  have hw : walkOn m.offers frm length rounds (k + 1) w s = m.offers.zipIdx.flatMap (addOf m.offers frm length rounds k w s) := by rw [walkOn, if_neg he]; rfl
  rw [hw] at hall ⊢
  have hf : s[w.to.toNat]? = some false := hk.free.resolve_right he
  have hto : w.to.toNat < s.length := by rw [hk.len]; have := hk.to1; have := hk.to2; omega
  have hn : s.length = m.n.toNat := hk.len
  have ht1 := hk.to1
  have ht2 := hk.to2
  refine on_less ?_
  refine FnG.introD Tryd.func94 (by rfl) (by rw [Tryd.ntmps94]; simp [capsOn]) ?_
  rw [Tryd.ntmps94]
  simp only [argEnv, capsOn, heapOn, Nat.reduceAdd]
  refine AWp.seq fun K hK => AWp.reg ?_
  iterate 2 (refine AOps.consU fun K' hK' => ?_; simp (disch := omega) only [go_sem, ↓reduceIte]; refine hK' _ ?_; clear hK' K')
  refine AOps.nil ?_
  simp only [Post.then]
  refine hK _ ?_; clear hK K
  refine AWp.seq fun K hK => ?_
  refine AWp.seq fun K2 hK2 => AWp.reg ?_
  iterate 5 (refine AOps.consU fun K' hK' => ?_; simp (disch := omega) only [go_sem, ↓reduceIte]; refine hK' _ ?_; clear hK' K')
  refine AOps.nil ?_
  simp only [Post.then]
  refine hK2 _ ?_; clear hK2 K2
  refine AWp.cond (b := decide ((w.list.length : Int) = length)) (by rfl) (fun hb => ?_) (fun hb => ?_)
  · exact absurd (by simpa using hb) he
  refine AWp.skip ?_
  simp only [Post.then, Post.inBlock]
  refine hK _ ?_; clear hK K
  -- seen
  have hget : s[w.to.toNat]? = some s[w.to.toNat] := List.getElem?_eq_getElem hto
  refine AWp.seq fun K hK => AWp.reg ?_
  iterate 5 (refine AOps.consU fun K' hK' => ?_; simp (disch := omega) only [go_sem, hget, ↓reduceIte]; refine hK' _ ?_; clear hK' K')
  refine AOps.nil ?_
  simp only [Post.then]
  refine hK _ ?_; clear hK K
  -- the deferred call
  refine AWp.seq fun K hK => AWp.reg ?_
  iterate 1 (refine AOps.consU fun K' hK' => ?_; simp (disch := omega) only [go_sem, ↓reduceIte]; refine hK' _ ?_; clear hK' K')
  refine AOps.consC (by simp only [go_sem]) fun K' hK' => ?_
  simp (disch := omega) only [go_sem, ↓reduceIte]
  refine OpT.defer (by rfl) (by rfl) (by rfl) (by rfl) (by simp only [go_sem]) ?_
  simp only [go_sem, ↓reduceIte]; refine hK' _ ?_; clear hK' K'
  refine AOps.nil ?_
  simp only [Post.then]
  refine hK _ ?_; clear hK K
  -- the loop
  refine AWp.seqI (fun _ : Unit => headOn m frm length rounds l all xs k w s m.offers.length) (fun _ => True) ?_ ?_
  rotate_left
  · rintro ⟨⟩ _
    simp only [headOn]
    refine AWp.seq fun K hK => AWp.reg ?_
    iterate 1 (refine AOps.consU fun K' hK' => ?_; simp (disch := omega) only [go_sem, ↓reduceIte]; refine hK' _ ?_; clear hK' K')
    refine AOps.nil ?_
    simp only [Post.then]
    refine hK _ ?_; clear hK K
    refine AWp.ret ?_
    refine on_leave (c := true) (by rfl) rfl hn ⟨ht1, ht2⟩ hf ⟨⟨rfl, rfl, rfl, rfl, trivial⟩, .inl ⟨rfl, ?_⟩⟩
    rw [ysOf_all]
  refine AWp.seq fun K hK => AWp.reg ?_
  iterate 4 (refine AOps.consU fun K' hK' => ?_; simp (disch := omega) only [go_sem, ↓reduceIte]; refine hK' _ ?_; clear hK' K')
  refine AOps.nil ?_
  simp only [Post.then]
  refine hK _ ?_; clear hK K
  refine AWp.block ?_
  refine AWp.loopI (fun i : Nat => headOn m frm length rounds l all xs k w s i) (fun i => i ≤ m.offers.length) (fun i => m.offers.length - i) 0 (Nat.zero_le _) ?_ ?_
  · refine Sub.mk ⟨rfl, rfl, rfl, rfl, rfl, rfl, rfl, rfl, rfl, trivial⟩ ⟨rfl, rfl, rfl, rfl, rfl, trivial⟩ ⟨trivial, trivial, trivial, rfl, rfl, rfl, trivial, trivial, trivial, trivial⟩ (heapIn_refs ..) ⟨rfl, ?_, ?_⟩
    · simp only [headOn, heapIn, go_sem, ↓reduceIte]
    · simp [headOn, ysOf_zero, lenc]
  · intro i hi
    simp only [headOn, heapIn]
    refine AWp.seq fun K hK => AWp.reg ?_
    iterate 1 (refine AOps.consU fun K' hK' => ?_; simp (disch := omega) only [go_sem, ↓reduceIte]; refine hK' _ ?_; clear hK' K')
    refine AOps.nil ?_
    simp only [Post.then]
    refine hK _ ?_; clear hK K
    refine AWp.seq fun K hK => ?_
    refine AWp.cond (b := decide ((i : Int) < m.offers.length)) (by rfl) (fun hb => ?_) (fun hb => ?_)
    rotate_left
    · have hi2 : i = m.offers.length := by
        have : ¬ (i : Int) < m.offers.length := by simpa using hb
        omega
      subst hi2
      refine AWp.exit ?_
      simp only [Post.then, Post.inBlock, ↓reduceIte]
      refine ⟨(), trivial, ?_⟩
      exact Sub.mk ⟨rfl, rfl, rfl, rfl, rfl, rfl, rfl, rfl, rfl, trivial⟩ ⟨rfl, rfl, rfl, rfl, rfl, trivial⟩ ⟨trivial, trivial, trivial, rfl, rfl, rfl, trivial, trivial, trivial, trivial⟩ (heapIn_refs ..) ⟨rfl, by simp only [headOn, heapIn, go_sem, ↓reduceIte], rfl⟩
    have hi2 : i < m.offers.length := by
      have : (i : Int) < m.offers.length := by simpa using hb
      omega
    obtain ⟨o, ho⟩ : ∃ o, m.offers[i]? = some o := ⟨_, List.getElem?_eq_getElem hi2⟩
    have hgo : goodOffer m.n o = true := by
      simp only [walksPre, Bool.and_eq_true, List.all_eq_true] at hpre
      exact hpre.2 o (List.mem_of_getElem? ho)
    have hyd : ∀ (σ' : St), Sub G 94 σ' (headOn m frm length rounds l all xs k w s (i + 1)) → ∃ i', i' ≤ m.offers.length ∧ m.offers.length - i' < m.offers.length - i ∧ Sub G 94 σ' (headOn m frm length rounds l all xs k w s i') := fun σ' h => ⟨i + 1, by omega, by omega, h⟩
    refine AWp.skip ?_
    simp only [Post.then, Post.inBlock]
    refine hK _ ?_; clear hK K
    refine AWp.seq fun K hK => ?_
    refine AWp.block ?_
    refine AWp.seq fun K2 hK2 => AWp.reg ?_
    iterate 6 (refine AOps.consU fun K' hK' => ?_; simp (disch := omega) only [go_sem, ho, Int.toNat_natCast, ↓reduceIte]; refine hK' _ ?_; clear hK' K')
    refine AOps.nil ?_
    simp only [Post.then]
    refine hK2 _ ?_; clear hK2 K2
    refine AWp.seq fun K2 hK2 => AWp.reg ?_
    iterate 7 (refine AOps.consU fun K' hK' => ?_; simp (disch := omega) only [go_sem, ↓reduceIte]; refine hK' _ ?_; clear hK' K')
    refine AOps.nil ?_
    simp only [Post.then]
    refine hK2 _ ?_; clear hK2 K2
    refine AWp.seq fun K2 hK2 => ?_
    refine AWp.seq fun K3 hK3 => AWp.reg ?_
    simp only [goodOffer, decide_eq_true_eq] at hgo
    obtain ⟨hg1, hg2, hg3, hg4, hg5, hg6, hg7, hg8⟩ := hgo
    have hto2 : o.To.toNat < (s.set w.to.toNat true).length := by rw [List.length_set, hn]; omega
    have hse : (s.set w.to.toNat true)[o.To.toNat]? = some ((s.set w.to.toNat true).getD o.To.toNat false) := by
      simp only [List.getD, List.getElem?_eq_getElem hto2, Option.getD_some]
    have hwl : w.list.length ≤ 1000 := by
      have := hk.k1
      simp only [walksPre, Bool.and_eq_true, decide_eq_true_eq] at hpre
      omega
    have hra : m_rate_ratio o.Num o.Den = some (ratioN o.Num o.Den) := ratio_some _ _ ⟨hg5, by omega⟩ ⟨hg7, by omega⟩
    have hgcd : 0 < Int.gcd o.Num o.Den := Int.gcd_pos_of_ne_zero_left _ (by omega)
    have hrn : 1 ≤ (ratioN o.Num o.Den).Num ∧ (ratioN o.Num o.Den).Num ≤ 50 ∧ 1 ≤ (ratioN o.Num o.Den).Den ∧ (ratioN o.Num o.Den).Den ≤ 50 := ratioN_bounds ⟨hg5, hg6⟩ ⟨hg7, hg8⟩
    have hp6 : (50 : Int) ^ w.list.length ≤ 15625000000 := by
      have hl : w.list.length ≤ 5 := by
        have := hk.k1
        simp only [walksPre, Bool.and_eq_true, decide_eq_true_eq] at hpre
        omega
      have : ∀ n : Nat, n ≤ 5 → (50 : Int) ^ n ≤ 15625000000 := by decide
      exact this _ hl
    have hti : m_rate_times w.rate (ratioN o.Num o.Den) = some (timesN w.rate (ratioN o.Num o.Den)) := by
      have b1 := hk.num1
      have b2 := hk.num2
      have b3 := hk.den1
      have b4 := hk.den2
      have m1 := mul_bounds (x := w.rate.Num) (y := (ratioN o.Num o.Den).Num) (a := 15625000000) (b := 50) ⟨by omega, by omega⟩ ⟨by omega, by omega⟩
      have m2 := mul_bounds (x := w.rate.Den) (y := (ratioN o.Num o.Den).Den) (a := 15625000000) (b := 50) ⟨by omega, by omega⟩ ⟨by omega, by omega⟩
      exact times_some _ _ ⟨by omega, by omega⟩ ⟨by omega, by omega⟩ ⟨by omega, by omega⟩ ⟨by omega, by omega⟩ (by omega) (by omega)
    have wl : IntKind.i64.wrap (length - 1) = length - 1 := by
      simp only [walksPre, Bool.and_eq_true, decide_eq_true_eq] at hpre
      exact wrap_i64_eq (by omega)
    have hlen2 : o.To < ((m.n.toNat : Nat) : Int) := by omega
    refine AOps.cut 25 (⟨[(1, .dptr 1 [.int .i64 length] 0 0), (2, .dptr 1 [.int .i64 frm] 0 0), (3, .dptr 1 [.bool rounds] 0 0), (5, .ptr 2 0 0), (7, .ptr 4 0 0), (8, .ptr 1000 0 0), (10, .d (.int .i64 i)), (11, .ptr 1001 0 0), (35, .d (.imm 4 (lenc Offer.pd m.offers))), (36, .d (.int .i64 m.offers.length)), (37, .d (.int .i64 i)), (72, .d (.bool (walkSkip frm length rounds w (s.set w.to.toNat true) o)))],
      heapIn m frm length rounds l m.n.toNat (s.set w.to.toNat true) w ++ [(1001, ⟨43, 4, [.d o.pd]⟩)], [.func (.func 95) [.ptr 2 0 0, .ptr 1000 0 0]], some (l, all, xs ++ lenc Walk.pd (ysOf m.offers frm length rounds k w s i), true)⟩) ?_ ?_
    · simp only [List.take_succ_cons, List.take_zero]
      rcases Bool.eq_false_or_eq_true (decide (¬o.From = w.to)) with c1 | c1
      · have hsk : walkSkip frm length rounds w (s.set w.to.toNat true) o = true := by simp only [walkSkip, c1, Bool.true_or]
        rw [hsk]
        iterate 25 (refine AOps.consU fun K' hK' => ?_; simp (disch := omega) only [go_sem, hse, c1, ↓reduceIte]; refine hK' _ ?_; clear hK' K')
        refine AOps.nil ?_
        exact Sub.mk ⟨rfl, rfl, rfl, rfl, rfl, rfl, rfl, rfl, rfl, rfl, rfl, rfl, trivial⟩ ⟨rfl, rfl, rfl, rfl, rfl, rfl, trivial⟩ ⟨trivial, trivial, trivial, rfl, rfl, rfl, trivial, rfl, trivial, trivial, trivial, trivial, trivial⟩ (by simp only [heapIn, capsOn, go_sem, ↓reduceIte]) ⟨rfl, by simp only [heapIn, go_sem, ↓reduceIte], rfl⟩
      rcases Bool.eq_false_or_eq_true ((s.set w.to.toNat true).getD o.To.toNat false) with c2 | c2
      rotate_left
      · have hsk : walkSkip frm length rounds w (s.set w.to.toNat true) o = false := by simp only [walkSkip, c1, c2, Bool.false_and, Bool.or_false]
        rw [hsk]
        iterate 25 (refine AOps.consU fun K' hK' => ?_; simp (disch := omega) only [go_sem, hse, c1, c2, ↓reduceIte]; refine hK' _ ?_; clear hK' K')
        refine AOps.nil ?_
        exact Sub.mk ⟨rfl, rfl, rfl, rfl, rfl, rfl, rfl, rfl, rfl, rfl, rfl, rfl, trivial⟩ ⟨rfl, rfl, rfl, rfl, rfl, rfl, trivial⟩ ⟨trivial, trivial, trivial, rfl, rfl, rfl, trivial, rfl, trivial, trivial, trivial, trivial, trivial⟩ (by simp only [heapIn, capsOn, go_sem, ↓reduceIte]) ⟨rfl, by simp only [heapIn, go_sem, ↓reduceIte], rfl⟩
      rcases Bool.eq_false_or_eq_true rounds with c3 | c3
      rotate_left
      · subst c3
        have hsk : walkSkip frm length false w (s.set w.to.toNat true) o = true := by simp only [walkSkip, c1, c2, Bool.false_and, Bool.not_false, Bool.and_true, Bool.or_true]
        rw [hsk]
        iterate 25 (refine AOps.consU fun K' hK' => ?_; simp (disch := omega) only [go_sem, hse, c1, c2, ↓reduceIte]; refine hK' _ ?_; clear hK' K')
        refine AOps.nil ?_
        exact Sub.mk ⟨rfl, rfl, rfl, rfl, rfl, rfl, rfl, rfl, rfl, rfl, rfl, rfl, trivial⟩ ⟨rfl, rfl, rfl, rfl, rfl, rfl, trivial⟩ ⟨trivial, trivial, trivial, rfl, rfl, rfl, trivial, rfl, trivial, trivial, trivial, trivial, trivial⟩ (by simp only [heapIn, capsOn, go_sem, ↓reduceIte]) ⟨rfl, by simp only [heapIn, go_sem, ↓reduceIte], rfl⟩
      subst c3
      rcases Bool.eq_false_or_eq_true (decide ((w.list.length : Int) = length - 1)) with c4 | c4
      rotate_left
      · have hsk : walkSkip frm length true w (s.set w.to.toNat true) o = true := by simp only [walkSkip, c1, c2, c4, Bool.and_false, Bool.false_and, Bool.not_false, Bool.and_true, Bool.or_true]
        rw [hsk]
        iterate 25 (refine AOps.consU fun K' hK' => ?_; simp (disch := omega) only [go_sem, hse, c1, c2, c4, wl, ↓reduceIte]; refine hK' _ ?_; clear hK' K')
        refine AOps.nil ?_
        exact Sub.mk ⟨rfl, rfl, rfl, rfl, rfl, rfl, rfl, rfl, rfl, rfl, rfl, rfl, trivial⟩ ⟨rfl, rfl, rfl, rfl, rfl, rfl, trivial⟩ ⟨trivial, trivial, trivial, rfl, rfl, rfl, trivial, rfl, trivial, trivial, trivial, trivial, trivial⟩ (by simp only [heapIn, capsOn, go_sem, ↓reduceIte]) ⟨rfl, by simp only [heapIn, go_sem, ↓reduceIte], rfl⟩
      · have hsk : walkSkip frm length true w (s.set w.to.toNat true) o = !(decide (o.To = frm)) := by simp only [walkSkip, c1, c2, c4, Bool.true_and, Bool.and_true, Bool.false_or]
        rw [hsk]
        iterate 25 (refine AOps.consU fun K' hK' => ?_; simp (disch := omega) only [go_sem, hse, c1, c2, c4, wl, ↓reduceIte]; refine hK' _ ?_; clear hK' K')
        refine AOps.nil ?_
        exact Sub.mk ⟨rfl, rfl, rfl, rfl, rfl, rfl, rfl, rfl, rfl, rfl, rfl, rfl, trivial⟩ ⟨rfl, rfl, rfl, rfl, rfl, rfl, trivial⟩ ⟨trivial, trivial, trivial, rfl, rfl, rfl, trivial, rfl, trivial, trivial, trivial, trivial, trivial⟩ (by simp only [heapIn, capsOn, go_sem, ↓reduceIte]) ⟨rfl, by simp only [heapIn, go_sem, ↓reduceIte], rfl⟩
    simp only [List.drop_succ_cons, List.drop_zero, heapIn, List.cons_append, List.nil_append]
    refine AOps.nil ?_
    simp only [Post.then]
    refine hK3 _ ?_; clear hK3 K3
    refine AWp.cond (b := walkSkip frm length rounds w (s.set w.to.toNat true) o) (by rfl) (fun hb => ?_) (fun hb => ?_)
    · refine AWp.exit ?_
      simp only [Post.then, Post.inBlock, ↓reduceIte]
      refine hK _ ?_; clear hK2 K2 hK K
      refine AWp.reg ?_
      iterate 2 (refine AOps.consU fun K' hK' => ?_; simp (disch := omega) only [go_sem, ↓reduceIte]; refine hK' _ ?_; clear hK' K')
      refine AOps.nil ?_
      simp only [Post.then]
      refine hyd _ ?_
      have hys : ysOf m.offers frm length rounds k w s (i + 1) = ysOf m.offers frm length rounds k w s i := by
        rw [ysOf_succ ho]; simp only [addOf, hb, if_true, List.append_nil]
      have hwi : IntKind.i64.wrap ((i : Int) + 1) = ((i + 1 : Nat) : Int) := by
        simp only [walksPre, Bool.and_eq_true, decide_eq_true_eq] at hpre
        rw [wrap_i64_eq (by omega)]; omega
      rw [hwi]
      exact Sub.mk ⟨rfl, rfl, rfl, rfl, rfl, rfl, rfl, rfl, rfl, trivial⟩ ⟨rfl, rfl, rfl, rfl, rfl, trivial⟩ ⟨trivial, trivial, trivial, rfl, rfl, rfl, trivial, trivial, trivial, trivial⟩ (heapIn_refs ..) ⟨rfl, by simp only [headOn, heapIn, go_sem, ↓reduceIte], by simp only [headOn, hys]⟩
    · refine AWp.skip ?_
      simp only [Post.then, Post.inBlock]
      refine hK2 _ ?_; clear hK2 K2
      refine AWp.seq fun K2 hK2 => AWp.draw mo [(1002, [76, 79, 90])] ⟨by rfl, trivial⟩ ?_
      iterate 3 (refine DOps.consU fun K' hK' => ?_; simp (disch := omega) only [go_sem, exE, exOk, Key.among, Cont.rows, rowsOf, rowsOfL, capsOn, false_or, or_true, true_or, or_false, List.contains_cons, List.contains_nil, ↓reduceIte]; refine hK' _ _ ?_; clear hK' K'; simp only [List.nil_append, List.cons_append])
      refine DOps.consC fun K' hK' => ?_
      simp (disch := omega) only [go_sem, ↓reduceIte]
      refine OpX.callRow 1002 (by rfl) (by rfl) (by kernel_rfl) (clone_fn w.list hwl) (by exact ⟨rfl, trivial⟩) (by simp only [go_sem, ↓reduceIte]) (by rfl) (by decide) (by simp only [go_sem, exE, exOk, Key.among, Cont.rows, rowsOf, rowsOfL, capsOn, false_or, or_true, true_or, or_false, List.contains_cons, List.contains_nil, ↓reduceIte]) ?_
      simp (disch := omega) only [go_sem, ↓reduceIte]; refine hK' _ _ ?_; clear hK' K'; simp only [List.nil_append, List.cons_append]
      iterate 1 (refine DOps.consU fun K' hK' => ?_; simp (disch := omega) only [go_sem, exE, exOk, Key.among, Cont.rows, rowsOf, rowsOfL, capsOn, false_or, or_true, true_or, or_false, List.contains_cons, List.contains_nil, ↓reduceIte]; refine hK' _ _ ?_; clear hK' K'; simp only [List.nil_append, List.cons_append])
      refine DOps.consLU fun K' hK' => ?_; simp (disch := omega) only [go_sem, exE, exOk, Key.among, Cont.rows, rowsOf, rowsOfL, capsOn, false_or, or_true, true_or, or_false, List.contains_cons, List.contains_nil, ↓reduceIte]; refine hK' _ _ ?_; clear hK' K'; simp only [List.nil_append, List.cons_append]
      refine DOps.consC fun K' hK' => ?_
      simp (disch := omega) only [go_sem, ↓reduceIte]
      refine OpX.app (r := 1002) (n := w.list.length) (L := [.d (.int .i64 (i : Int))]) (S := [76, 79, 90]) (by rfl) (by rfl) (by rfl) (by rfl) (by rfl) (by decide) se27 T3_ok (by rfl) (by rfl) (by simp only [go_sem, ↓reduceIte]) (by simp only [go_sem]) (by rfl) (by simp only [go_sem]) (by decide) (by simp only [List.length_singleton]; omega) (by simp only [List.length_singleton, go_sem]; omega) (.inl ⟨rfl, rfl⟩) (by rfl) (by rfl) (by decide) (by simp only [leadOnly, go_sem, rowsOf, exE, exOk, Key.among, Cont.rows, rowsOf, rowsOfL, capsOn, false_or, or_true, true_or, or_false, List.contains_cons, List.contains_nil, ↓reduceIte]) (by simp only [go_sem]) (by rfl) (by rfl) (by simp only [go_sem, dl_rows, exE, exOk, Key.among, Cont.rows, rowsOf, rowsOfL, capsOn, false_or, or_true, true_or, or_false, List.contains_cons, List.contains_nil, ↓reduceIte]) ?_
      simp (disch := omega) only [go_sem, ↓reduceIte]; refine hK' _ _ ?_; clear hK' K'; simp only [List.nil_append, List.cons_append]
      iterate 6 (refine DOps.consU fun K' hK' => ?_; simp (disch := omega) only [go_sem, exE, exOk, Key.among, Cont.rows, rowsOf, rowsOfL, capsOn, false_or, or_true, true_or, or_false, List.contains_cons, List.contains_nil, dl_rows, ↓reduceIte]; refine hK' _ _ ?_; clear hK' K'; simp only [List.nil_append, List.cons_append])
      refine DOps.consC fun K' hK' => ?_
      simp (disch := omega) only [go_sem, ↓reduceIte]
      refine OpX.call (by rfl) (by rfl) (by kernel_rfl) (m_rate_ratio_ok o.Num o.Den _ hra) (by exact ⟨rfl, rfl, trivial⟩) (by simp only [go_sem, ↓reduceIte]) (by simp only [go_sem]) (by simp only [go_sem, exE, exOk, Key.among, Cont.rows, rowsOf, rowsOfL, capsOn, false_or, or_true, true_or, or_false, List.contains_cons, List.contains_nil, dl_rows, ↓reduceIte]) ?_
      simp (disch := omega) only [go_sem, ↓reduceIte]; refine hK' _ _ ?_; clear hK' K'; simp only [List.nil_append, List.cons_append]
      refine DOps.consC fun K' hK' => ?_
      simp (disch := omega) only [go_sem, ↓reduceIte]
      refine OpX.call (by rfl) (by rfl) (by kernel_rfl) (m_rate_times_ok w.rate (ratioN o.Num o.Den) _ hti) (by exact ⟨rfl, rfl, trivial⟩) (by simp only [go_sem, ↓reduceIte]) (by simp only [go_sem]) (by simp only [go_sem, exE, exOk, Key.among, Cont.rows, rowsOf, rowsOfL, capsOn, false_or, or_true, true_or, or_false, List.contains_cons, List.contains_nil, dl_rows, ↓reduceIte]) ?_
      simp (disch := omega) only [go_sem, ↓reduceIte]; refine hK' _ _ ?_; clear hK' K'; simp only [List.nil_append, List.cons_append]
      iterate 3 (refine DOps.consU fun K' hK' => ?_; simp (disch := omega) only [go_sem, exE, exOk, Key.among, Cont.rows, rowsOf, rowsOfL, capsOn, false_or, or_true, true_or, or_false, List.contains_cons, List.contains_nil, dl_rows, ↓reduceIte]; refine hK' _ _ ?_; clear hK' K'; simp only [List.nil_append, List.cons_append])
      refine DOps.stop (by kernel_rfl) ?_
      have hlst : lstD 1 (lenc (PD.int .i64) (w.list ++ [(i : Int)])) = .imm 1 (lenc (PD.int .i64) (w.list ++ [(i : Int)])) := by
        cases w.list <;> rfl
      have hpd : Walk.pd ⟨w.list ++ [(i : Int)], timesN w.rate (ratioN o.Num o.Den), o.To⟩ = .agg [.imm 1 (lenc (PD.int .i64) (w.list ++ [(i : Int)])), .int .i64 (timesN w.rate (ratioN o.Num o.Den)).Num, .int .i64 (timesN w.rate (ratioN o.Num o.Den)).Den, .int .i64 o.To] := by
        simp only [Walk.pd, hlst]
      refine AOps.sub (τ := ⟨[(1, .dptr 1 [.int .i64 length] 0 0), (2, .dptr 1 [.int .i64 frm] 0 0), (3, .dptr 1 [.bool rounds] 0 0), (5, .ptr 2 0 0), (7, .ptr 4 0 0), (8, .ptr 1000 0 0), (35, .d (.imm 4 (lenc Offer.pd m.offers))), (36, .d (.int .i64 m.offers.length)), (37, .d (.int .i64 i)), (73, .func (.func 94) (capsOn m frm length rounds)), (90, .d (Walk.pd ⟨w.list ++ [(i : Int)], timesN w.rate (ratioN o.Num o.Den), o.To⟩))],
        heapIn m frm length rounds l m.n.toNat (s.set w.to.toNat true) w, [.func (.func 95) [.ptr 2 0 0, .ptr 1000 0 0]], some (l, all, xs ++ lenc Walk.pd (ysOf m.offers frm length rounds k w s i), true)⟩)
        (Sub.cv ⟨rfl, rfl, rfl, rfl, rfl, trivial⟩ ⟨.inl ⟨leV_refl _, trivial⟩, .inl ⟨leV_refl _, trivial⟩, .inl ⟨leV_refl _, trivial⟩, .inl ⟨leV_refl _, rfl⟩, .inl ⟨leV_refl _, rfl⟩, .inl ⟨leV_refl _, rfl⟩, .inl ⟨leV_refl _, trivial⟩, .inl ⟨leV_refl _, trivial⟩, .inl ⟨leV_refl _, trivial⟩, .inl ⟨leV_refl _, by simp only [heapIn, capsOn, go_sem, ↓reduceIte]⟩, .inr ⟨.d (Walk.pd ⟨w.list ++ [(i : Int)], timesN w.rate (ratioN o.Num o.Den), o.To⟩), ?_, leV_refl _, ?_⟩, trivial⟩ (heapIn_refs ..) ⟨rfl, by simp only [heapIn, go_sem, ↓reduceIte], rfl⟩) ?_
      · rw [hpd]
        have htk : (w.list ++ [(i : Int)]).take (w.list.length + 1) = w.list ++ [(i : Int)] := List.take_of_length_le (by simp)
        simp only [go_sem, htk, ↓reduceIte]
      · intro r hr
        simp only [go_sem, rowsOf, rowsOfL, List.mem_cons, List.not_mem_nil, or_false, ↓reduceIte] at hr
        subst hr; rfl
      have hadd : addOf m.offers frm length rounds k w s (o, i) = walkOn m.offers frm length rounds k ⟨w.list ++ [(i : Int)], timesN w.rate (ratioN o.Num o.Den), o.To⟩ (s.set w.to.toNat true) := by
        simp only [addOf, hb, Bool.false_eq_true, if_false]
      have hok : OnOk m length ⟨w.list ++ [(i : Int)], timesN w.rate (ratioN o.Num o.Den), o.To⟩ (s.set w.to.toNat true) k := by
        have hk1 := hk.k1
        have htb := timesN_bounds (p := w.rate) (q := ratioN o.Num o.Den) (a := 50 ^ w.list.length) (b := 50) ⟨hk.num1, hk.num2⟩ ⟨hk.den1, hk.den2⟩ ⟨by omega, by omega⟩ ⟨by omega, by omega⟩
        have hll : (w.list ++ [(i : Int)]).length = w.list.length + 1 := by simp
        have hlg : 0 ≤ length := by
          simp only [walksPre, Bool.and_eq_true, decide_eq_true_eq] at hpre
          omega
        refine ⟨by rw [hll]; omega, by omega, by rw [List.length_set]; exact hn, hg3, hg4, htb.1, ?_, htb.2.2.1, ?_, ?_⟩
        · rw [hll, Int.pow_succ]; exact htb.2.1
        · rw [hll, Int.pow_succ]; exact htb.2.2.2
        · rw [hll]
          rcases Bool.eq_false_or_eq_true ((s.set w.to.toNat true).getD o.To.toNat false) with c | c
          · right
            have hb2 := hb
            simp only [walkSkip, c, Bool.true_and, Bool.or_eq_false_iff, Bool.not_eq_false', Bool.and_eq_true, decide_eq_true_eq] at hb2
            have := hb2.2.1.2
            omega
          · left
            rw [hse, c]
      have hpf : (xs ++ lenc Walk.pd (ysOf m.offers frm length rounds k w s i)) ++ lenc Walk.pd (walkOn m.offers frm length rounds k ⟨w.list ++ [(i : Int)], timesN w.rate (ratioN o.Num o.Den), o.To⟩ (s.set w.to.toNat true)) <+: all := by
        obtain ⟨r, hr⟩ := ysOf_pre (offers := m.offers) (frm := frm) (length := length) (rounds := rounds) (k := k) (w := w) (s := s) (i := i + 1)
        rw [ysOf_succ ho, hadd] at hr
        refine List.IsPrefix.trans ⟨lenc Walk.pd r, ?_⟩ hall
        rw [hr]; simp [lenc]
      simp only [heapIn]
      refine AOps.consC (by simp only [go_sem, ↓reduceIte]) fun K' hK' => ?_
      simp (disch := omega) only [go_sem, ↓reduceIte]
      refine OpT.callG (H := heapOn m frm length rounds l m.n.toNat (s.set w.to.toNat true)) (g := id) (gc := some (l, all, xs ++ lenc Walk.pd (ysOf m.offers frm length rounds k w s i), true)) (by rfl) (by rfl) (by rfl) (by kernel_rfl) (ih _ _ _ hok hpf) (Hand.of ?_ ?_) (.inr rfl) ?_ (by simp only [go_sem, ↓reduceIte]) ?_
      · simp only [go_sem, heapOn, capsOn, Row.ren, renL, PV.ren, dl_ren, id, ↓reduceIte]
      · simp only [go_sem, heapOn, id, ↓reduceIte]
      · simp only [go_sem, heapOn, capsOn, handsOk, handOk, id, ↓reduceIte]
      rintro p H' g' ⟨rfl, hp⟩
      refine ⟨id, Back.of ?_ ?_ ?_, ?_, ?_, ?_⟩
      · simp only [go_sem, heapOn, capsOn, Row.ren, renL, PV.ren, dl_ren, id, dl_length, dl_clean, clean, cleanL, ↓reduceIte]
      · simp only [go_sem, heapOn, id, ↓reduceIte]
      · simp only [go_sem, heapOn, id, ↓reduceIte]
      · rcases hp with ⟨rfl, _⟩ | ⟨_, _, _, rfl, _⟩ <;> trivial
      · rcases hp with ⟨rfl, _⟩ | ⟨_, _, _, rfl, _⟩ <;> trivial
      rcases hp with ⟨rfl, rfl⟩ | ⟨part, rest, hpr, rfl, rfl⟩
      · simp only [go_sem, heapOn, capsOn, hmerge, Row.ren, renL, PV.ren, dl_ren, id, ghBack, ↓reduceIte]; refine hK' _ ?_; clear hK' K'
        iterate 1 (refine AOps.consU fun K' hK' => ?_; simp (disch := omega) only [go_sem, ↓reduceIte]; refine hK' _ ?_; clear hK' K')
        refine AOps.nil ?_
        simp only [Post.then]
        refine hK2 _ ?_; clear hK2 K2
        refine AWp.cond (b := false) (by rfl) (fun hb => by cases hb) (fun _ => ?_)
        refine AWp.skip ?_
        simp only [Post.then, Post.inBlock]
        refine hK _ ?_; clear hK K
        refine AWp.reg ?_
        iterate 2 (refine AOps.consU fun K' hK' => ?_; simp (disch := omega) only [go_sem, ↓reduceIte]; refine hK' _ ?_; clear hK' K')
        refine AOps.nil ?_
        simp only [Post.then]
        refine hyd _ ?_
        have hwi : IntKind.i64.wrap ((i : Int) + 1) = ((i + 1 : Nat) : Int) := by
          simp only [walksPre, Bool.and_eq_true, decide_eq_true_eq] at hpre
          rw [wrap_i64_eq (by omega)]; omega
        rw [hwi]
        exact Sub.mk ⟨rfl, rfl, rfl, rfl, rfl, rfl, rfl, rfl, rfl, trivial⟩ ⟨rfl, rfl, rfl, rfl, rfl, trivial⟩ ⟨trivial, trivial, trivial, rfl, rfl, rfl, trivial, trivial, trivial, trivial⟩ (heapIn_refs ..) ⟨rfl, by simp only [headOn, heapIn, go_sem, ↓reduceIte], by simp only [headOn, ysOf_succ ho, hadd]; simp [lenc]⟩
      · simp only [go_sem, heapOn, capsOn, hmerge, Row.ren, renL, PV.ren, dl_ren, id, ghBack, ↓reduceIte]; refine hK' _ ?_; clear hK' K'
        iterate 1 (refine AOps.consU fun K' hK' => ?_; simp (disch := omega) only [go_sem, ↓reduceIte]; refine hK' _ ?_; clear hK' K')
        refine AOps.nil ?_
        simp only [Post.then]
        refine hK2 _ ?_; clear hK2 K2
        refine AWp.cond (b := true) (by rfl) (fun _ => ?_) (fun hb => by cases hb)
        refine AWp.seq fun K2 hK2 => AWp.reg ?_
        iterate 1 (refine AOps.consU fun K' hK' => ?_; simp (disch := omega) only [go_sem, ↓reduceIte]; refine hK' _ ?_; clear hK' K')
        refine AOps.nil ?_
        simp only [Post.then]
        refine hK2 _ ?_; clear hK2 K2
        refine AWp.ret ?_
        simp only [Post.then, Post.inBlock]
        obtain ⟨r, hr⟩ := ysOf_pre (offers := m.offers) (frm := frm) (length := length) (rounds := rounds) (k := k) (w := w) (s := s) (i := i + 1)
        refine on_leave (c := false) (by rfl) rfl hn ⟨ht1, ht2⟩ hf ⟨⟨rfl, rfl, rfl, rfl, trivial⟩, .inr ⟨lenc Walk.pd (ysOf m.offers frm length rounds k w s i) ++ part, rest ++ lenc Walk.pd r, ?_, rfl, ?_⟩⟩
        · rw [hr, ysOf_succ ho, hadd]
          have : lenc Walk.pd (ysOf m.offers frm length rounds k w s i ++ walkOn m.offers frm length rounds k ⟨w.list ++ [(i : Int)], timesN w.rate (ratioN o.Num o.Den), o.To⟩ (s.set w.to.toNat true) ++ r) = lenc Walk.pd (ysOf m.offers frm length rounds k w s i) ++ lenc Walk.pd (walkOn m.offers frm length rounds k ⟨w.list ++ [(i : Int)], timesN w.rate (ratioN o.Num o.Den), o.To⟩ (s.set w.to.toNat true)) ++ lenc Walk.pd r := by simp [lenc]
          rw [this, hpr]; simp
        · simp
end Go.Pv.Tryd

set_option linter.unusedSimpArgs false
set_option linter.unusedVariables false
namespace Go.Pv.Tryd
open Go.Proofs Go.Pv
theorem on_fn (m : Market) (frm length : Int) (rounds : Bool) (l : Nat) (all : List PD) (hpre : walksPre m frm length rounds = true) : ∀ (k : Nat) (w : Walk) (s : List Bool) (xs : List PD), OnOk m length w s k →
    xs ++ lenc Walk.pd (walkOn m.offers frm length rounds k w s) <+: all →
    FnG Tryd.prog G 94 (.d w.pd :: capsOn m frm length rounds) (heapOn m frm length rounds l m.n.toNat s) (some (l, all, xs, true)) (OnPost (lenc Walk.pd (walkOn m.offers frm length rounds k w s)) (heapOn m frm length rounds l m.n.toNat s) l all xs)
  | 0, w, s, xs, hk, _ => absurd hk.k2 (by omega)
  | k + 1, w, s, xs, hk, hall => by
    by_cases he : (w.list.length : Int) = length
    · exact on_end m frm length rounds l all k w s xs hk he hall
    · exact on_step m frm length rounds l all hpre k w s xs hk he (fun w' s' xs' => on_fn m frm length rounds l all hpre k w' s' xs') hall
@[go_sem] def walkCaps (m : Market) (frm length : Int) (rounds : Bool) : List PV := [.dptr 2 [Market.pd m] 0 0, .dptr 1 [.int .i64 length] 0 0, .dptr 1 [.int .i64 frm] 0 0, .dptr 1 [.bool rounds] 0 0]
theorem walks_seq (m : Market) (frm length : Int) (rounds : Bool) (hpre : walksPre m frm length rounds = true) : SeqFn Tryd.prog G 93 (walkCaps m frm length rounds) (lenc Walk.pd (walksL m frm length rounds)) := by
  intro l
  have hp := hpre
  simp only [walksPre, Bool.and_eq_true, decide_eq_true_eq] at hp
  obtain ⟨⟨hp1, hp2, hp3, hp4, hp5, hp6⟩, hp7⟩ := hp
  have hrep : lenc PD.bool (List.replicate m.n.toNat false) = List.replicate m.n.toNat (PD.bool false) := by simp [lenc]
  have hok : OnOk m length ⟨[], ⟨1, 1⟩, frm⟩ (List.replicate m.n.toNat false) (length.toNat + 1) := by
    refine ⟨by simp, by omega, by simp, hp3, hp4, by simp, by simp, by simp, by simp, .inl ?_⟩
    show (List.replicate m.n.toNat false)[frm.toNat]? = some false
    rw [List.getElem?_replicate, if_pos (by omega)]
  refine FnG.less (R := fun p _ g' => p = .tuple [] ∧ (g' = some (l, lenc Walk.pd (walksL m frm length rounds), lenc Walk.pd (walksL m frm length rounds), true) ∨ ∃ part rest, lenc Walk.pd (walksL m frm length rounds) = part ++ rest ∧ g' = some (l, lenc Walk.pd (walksL m frm length rounds), part, false))) ?_ ?_
  rotate_left
  · rintro p H' g' ⟨rfl, h⟩
    exact ⟨[], trivial, trivial, trivial, rfl, h⟩
  refine FnG.introD Tryd.func93 (by rfl) (by rw [Tryd.ntmps93]; simp [walkCaps]) ?_
  rw [Tryd.ntmps93]
  simp only [argEnv, walkCaps, Nat.reduceAdd]
  refine AWp.seq fun K hK => AWp.reg ?_
  iterate 1 (refine AOps.consU fun K' hK' => ?_; simp (disch := omega) only [go_sem, ↓reduceIte]; refine hK' _ ?_; clear hK' K')
  refine AOps.nil ?_
  simp only [Post.then]
  refine hK _ ?_; clear hK K
  refine AWp.seq fun K hK => AWp.reg ?_
  iterate 5 (refine AOps.consU fun K' hK' => ?_; simp (disch := omega) only [go_sem, ↓reduceIte]; refine hK' _ ?_; clear hK' K')
  refine AOps.nil ?_
  simp only [Post.then]
  refine hK _ ?_; clear hK K
  refine AWp.seq fun K hK => AWp.reg ?_
  iterate 1 (refine AOps.consU fun K' hK' => ?_; simp (disch := omega) only [go_sem, ↓reduceIte]; refine hK' _ ?_; clear hK' K')
  refine AOps.nil ?_
  simp only [Post.then]
  refine hK _ ?_; clear hK K
  refine AWp.seq fun K hK => AWp.reg ?_
  iterate 2 (refine AOps.consU fun K' hK' => ?_; simp (disch := omega) only [go_sem, ↓reduceIte]; refine hK' _ ?_; clear hK' K')
  refine AOps.nil ?_
  simp only [Post.then]
  refine hK _ ?_; clear hK K
  refine AWp.reg ?_
  iterate 4 (refine AOps.consU fun K' hK' => ?_; simp (disch := omega) only [go_sem, ↓reduceIte]; refine hK' _ ?_; clear hK' K')
  refine AOps.consC (by simp only [go_sem, ↓reduceIte]) fun K' hK' => ?_
  simp (disch := omega) only [go_sem, ↓reduceIte]
  have hf := on_fn m frm length rounds l (lenc Walk.pd (walksL m frm length rounds)) hpre (length.toNat + 1) ⟨[], ⟨1, 1⟩, frm⟩ (List.replicate m.n.toNat false) [] hok (by rw [List.nil_append]; exact List.prefix_refl _)
  refine OpT.callG (H := heapOn m frm length rounds l m.n.toNat (List.replicate m.n.toNat false)) (g := renOf [(1, 1000), (2, 1002), (3, 1001), (4, 1003)]) (gc := some (l, lenc Walk.pd (walksL m frm length rounds), [], true)) (by rfl) (by rfl) (by rfl) (by kernel_rfl) hf (Hand.of ?_ ?_) (.inr rfl) ?_ (by simp only [go_sem, ↓reduceIte]) ?_
  · simp only [go_sem, heapOn, capsOn, Row.ren, renL, PV.ren, dl_ren, Walk.pd, ↓reduceIte]
  · simp only [go_sem, heapOn, ↓reduceIte]
  · simp only [go_sem, handsOk, handOk, heapOn, capsOn, lstD, lenc, Walk.pd, List.map_nil, ↓reduceIte]
  rintro p H' g' ⟨rfl, hp⟩
  refine ⟨renOf [(1, 1000), (2, 1002), (3, 1001), (4, 1003)], Back.of ?_ ?_ ?_, ?_, ?_, ?_⟩
  · simp only [go_sem, heapOn, capsOn, Row.ren, renL, PV.ren, dl_ren, dl_length, dl_clean, clean, cleanL, ↓reduceIte]
  · simp only [go_sem, heapOn, ↓reduceIte]
  · simp only [go_sem, heapOn, ↓reduceIte]
  · rcases hp with ⟨rfl, _⟩ | ⟨_, _, _, rfl, _⟩ <;> trivial
  · rcases hp with ⟨rfl, _⟩ | ⟨_, _, _, rfl, _⟩ <;> trivial
  simp only [go_sem, heapOn, capsOn, hmerge, Row.ren, renL, PV.ren, dl_ren, ghBack, ↓reduceIte]; refine hK' _ ?_; clear hK' K'
  refine AOps.nil ?_
  simp only [Fin1]
  refine .inl ⟨.tuple [], ?_, by first | exact True.intro | rfl, rfl, ?_⟩
  · simp only [go_sem, Tryd.results93, ↓reduceIte]
  · rcases hp with ⟨_, rfl⟩ | ⟨part, rest, h1, _, rfl⟩
    · exact .inl rfl
    · exact .inr ⟨part, rest, h1, rfl⟩
theorem walks_fn (m : Market) (frm length : Int) (rounds : Bool) : PureFn Tryd.prog G 80 [.d (Market.pd m), .d (.int .i64 frm), .d (.int .i64 length), .d (.bool rounds)] (.func (.func 93) (walkCaps m frm length rounds)) := by
  refine PureFn.intro2 Tryd.func80 (by rfl) (by rw [Tryd.ntmps80]; simp) ?_
  rw [Tryd.ntmps80]
  simp only [argEnv, Nat.reduceAdd]
  refine AWp.seq fun K hK => AWp.reg ?_
  iterate 5 (refine AOps.consU fun K' hK' => ?_; simp (disch := omega) only [go_sem, ↓reduceIte]; refine hK' _ ?_; clear hK' K')
  refine AOps.nil ?_
  simp only [Post.then]
  refine hK _ ?_; clear hK K
  refine AWp.seq fun K hK => AWp.reg ?_
  iterate 2 (refine AOps.consU fun K' hK' => ?_; simp (disch := omega) only [go_sem, ↓reduceIte]; refine hK' _ ?_; clear hK' K')
  refine AOps.nil ?_
  simp only [Post.then]
  refine hK _ ?_; clear hK K
  refine AWp.ret ?_
  simp only [Go.Pv.Fin, Go.Pv.FinG]
  refine ⟨.func (.func 93) [.ptr 1000 0 0, .ptr 1002 0 0, .ptr 1001 0 0, .ptr 1003 0 0], ?_, True.intro, _, rfl, ?_⟩
  · simp only [go_sem, Tryd.results80, ↓reduceIte]
  · exact leV_refl _
end Go.Pv.Tryd



namespace Go.Pv.Tryd
open Go.Proofs Go.Pv
theorem m_rate_above_ok (a1 : Ratio) (b1 : Ratio) (r : Bool) (h : m_rate_above a1 b1 = some r) : PureFn Tryd.prog G 56 [.d (.agg [(.int .i64 a1.Num), (.int .i64 a1.Den)]), .d (.agg [(.int .i64 b1.Num), (.int .i64 b1.Den)])] (.d (.bool r)) := by
 unfold m_rate_above at h
 refine pf Tryd.func56 Tryd.ntmps56 ?_
 refine sg fun K k => ?_
 iterate 3 refine oo ?_
 refine AOps.nil (k _ ?_)
 refine sg fun K k => ?_
 iterate 12 refine oo ?_
 refine AOps.nil (k _ ?_)
 refine AWp.ret ?_
 cases h; exact rt
end Go.Pv.Tryd

namespace Go.Pv.Tryd
open Go.Proofs Go.Pv
theorem m_cmp_isNaN_ok (x1 : Int) (r : Bool) (h : m_cmp_isNaN x1 = some r) : PureFn Tryd.prog G 113 [.d (.int .i64 x1)] (.d (.bool r)) := by
 unfold m_cmp_isNaN at h
 refine pf Tryd.func113 Tryd.ntmps113 ?_
 refine sg fun K k => ?_
 refine oo ?_
 refine AOps.nil (k _ ?_)
 refine sg fun K k => ?_
 iterate 4 refine oo ?_
 refine AOps.nil (k _ ?_)
 refine AWp.ret ?_
 cases h; exact rt
end Go.Pv.Tryd

namespace Go.Pv.Tryd
open Go.Proofs Go.Pv
theorem m_cmp_Compare_ok (x1 : Int) (y1 : Int) (r : Int) (h : m_cmp_Compare x1 y1 = some r) : PureFn Tryd.prog G 97 [.d (.int .i64 x1), .d (.int .i64 y1)] (.d (.int .i64 r)) := by
 unfold m_cmp_Compare at h
 refine pf Tryd.func97 Tryd.ntmps97 ?_
 refine sg fun K k => ?_
 refine oo ?_
 refine AOps.nil (k _ ?_)
 refine sg fun K k => ?_
 refine oo ?_
 obtain ⟨r1, hx_1, h⟩ := bind_some h
 refine cl (m_cmp_isNaN_ok x1 _ hx_1) ?_
 refine oo ?_
 refine AOps.nil (k _ ?_)
 refine sg fun K k => ?_
 refine oo ?_
 obtain ⟨r2, hx_2, h⟩ := bind_some h
 refine cl (m_cmp_isNaN_ok y1 _ hx_2) ?_
 refine oo ?_
 refine AOps.nil (k _ ?_)
 refine AWp.seq fun _ K_3 => ?_
 refine sg fun K k => ?_
 refine oo ?_
 refine AOps.nil (k _ ?_)
 refine cd h (fun h => ?_) (fun h => ?_)
 ·refine AWp.seq fun _ K_5 => ?_
  refine sg fun K k => ?_
  refine oo ?_
  refine AOps.nil (k _ ?_)
  refine cd h (fun h => ?_) (fun h => ?_)
  ·refine sg fun K k => ?_
   refine oo ?_
   refine AOps.nil (k _ ?_)
   refine AWp.ret ?_
   cases h; exact rt
  ·refine AWp.skip ?_
   refine K_5 _ ?_
   refine sg fun K k => ?_
   refine oo ?_
   refine AOps.nil (k _ ?_)
   refine AWp.ret ?_
   cases h; exact rt
 ·refine AWp.skip ?_
  refine K_3 _ ?_
  refine AWp.seq fun _ K_7 => ?_
  refine sg fun K k => ?_
  refine oo ?_
  refine AOps.nil (k _ ?_)
  refine cd h (fun h => ?_) (fun h => ?_)
  ·refine sg fun K k => ?_
   refine oo ?_
   refine AOps.nil (k _ ?_)
   refine AWp.ret ?_
   cases h; exact rt
  ·refine AWp.skip ?_
   refine K_7 _ ?_
   refine AWp.seq fun _ K_9 => ?_
   refine sg fun K k => ?_
   iterate 3 refine oo ?_
   refine AOps.nil (k _ ?_)
   refine cd h (fun h => ?_) (fun h => ?_)
   ·refine sg fun K k => ?_
    refine oo ?_
    refine AOps.nil (k _ ?_)
    refine AWp.ret ?_
    cases h; exact rt
   ·refine AWp.skip ?_
    refine K_9 _ ?_
    refine AWp.seq fun _ K_11 => ?_
    refine sg fun K k => ?_
    iterate 3 refine oo ?_
    refine AOps.nil (k _ ?_)
    refine cd h (fun h => ?_) (fun h => ?_)
    ·refine sg fun K k => ?_
     refine oo ?_
     refine AOps.nil (k _ ?_)
     refine AWp.ret ?_
     cases h; exact rt
    ·refine AWp.skip ?_
     refine K_11 _ ?_
     refine sg fun K k => ?_
     refine oo ?_
     refine AOps.nil (k _ ?_)
     refine AWp.ret ?_
     cases h; exact rt
end Go.Pv.Tryd

namespace Go.Pv.Tryd
open Go.Proofs Go.Pv
theorem m_slices_Compare_ok (s11 : (List Int)) (s21 : (List Int)) (r : Int) (h : m_slices_Compare s11 s21 = some r) : PureFn Tryd.prog G 81 [.d (.imm 1 (lenc (PD.int .i64) s11)), .d (.imm 1 (lenc (PD.int .i64) s21))] (.d (.int .i64 r)) := by
 unfold m_slices_Compare at h
 refine pf Tryd.func81 Tryd.ntmps81 ?_
 refine sg fun K k => ?_
 refine oo ?_
 refine AOps.nil (k _ ?_)
 refine jm (ι := Unit) [0, 1] [] (fun i t => t) (fun i t => t) .inl h ?_ ?_
 ·intro _ hj_2 h
  refine sg fun K k => ?_
  iterate 3 refine oo ?_
  refine AOps.nil (k _ ?_)
  refine AWp.block ?_
  obtain ⟨x_7, hl_4, h2_5⟩ := bind_some hj_2
  refine lp (S := Int) [0, 1, 9, 10] [] (fun i t => (11, .d (.int .i64 i)) :: t) (fun i t => t) hl_4 ?_ ?_; exact sb; clear hl_4
  rintro v1 _ hb_6; unfold m_slices_Compare_l1 at hb_6; try dsimp only at hb_6
  try dsimp only
  refine sg fun K k => ?_
  refine oo ?_
  refine AOps.nil (k _ ?_)
  refine AWp.seq fun _ K_9 => ?_
  refine cd hb_6 (fun hb_6 => ?_) (fun hb_6 => ?_)
  ·refine AWp.skip ?_
   refine K_9 _ ?_
   refine AWp.seq fun _ K_11 => ?_
   refine AWp.block ?_
   refine sg fun K k => ?_
   obtain ⟨e1, ⟨f_12, f_13, f_14, f_15⟩, hb_6⟩ := idx_bind hb_6
   iterate 2 refine oo ?_
   refine oo ?_ (by intro K k; simp (disch := omega) only [go_sem, f_14, ↓reduceIte]; exact k)
   iterate 2 refine oo ?_
   refine AOps.nil (k _ ?_)
   refine AWp.seq fun _ K_16 => ?_
   refine sg fun K k => ?_
   iterate 4 refine oo ?_
   refine AOps.nil (k _ ?_)
   refine cd hb_6 (fun hb_6 => ?_) (fun hb_6 => ?_)
   ·refine sg fun K k => ?_
    refine oo ?_
    refine AOps.nil (k _ ?_)
    refine AWp.ret ?_
    refine lx hb_6 fun hx => ?_; cases hx; try dsimp only at h2_5
    cases h2_5; try dsimp only at h
    cases h; exact rt
   ·refine AWp.skip ?_
    refine K_16 _ ?_
    refine sg fun K k => ?_
    obtain ⟨e2, ⟨f_18, f_19, f_20, f_21⟩, hb_6⟩ := idx_bind hb_6
    iterate 3 refine oo ?_
    refine oo ?_ (by intro K k; simp (disch := omega) only [go_sem, f_20, ↓reduceIte]; exact k)
    refine oo ?_
    refine AOps.nil (k _ ?_)
    refine sg fun K k => ?_
    iterate 2 refine oo ?_
    obtain ⟨r1, hx_22, hb_6⟩ := bind_some hb_6
    refine cl (m_cmp_Compare_ok e1 e2 _ hx_22) ?_
    refine oo ?_
    refine AOps.nil (k _ ?_)
    refine sg fun K k => ?_
    iterate 2 refine oo ?_
    refine AOps.nil (k _ ?_)
    refine cd hb_6 (fun hb_6 => ?_) (fun hb_6 => ?_)
    ·refine sg fun K k => ?_
     iterate 2 refine oo ?_
     refine AOps.nil (k _ ?_)
     refine AWp.ret ?_
     refine lx hb_6 fun hx => ?_; cases hx; try dsimp only at h2_5
     cases h2_5; try dsimp only at h
     cases h; exact rt
    ·refine AWp.skip ?_
     refine K_11 _ ?_
     refine AWp.reg ?_
     iterate 2 refine oo ?_
     refine AOps.nil ?_
     exact ln hb_6 sb
  ·refine AWp.exit ?_
   refine lx hb_6 fun hx => ?_; cases hx; try dsimp only at h2_5
   exact ln h2_5 sb
 ·rintro _ h; dsimp only at h ⊢
  refine AWp.seq fun _ K_24 => ?_
  refine sg fun K k => ?_
  iterate 5 refine oo ?_
  refine AOps.nil (k _ ?_)
  refine cd h (fun h => ?_) (fun h => ?_)
  ·refine sg fun K k => ?_
   refine oo ?_
   refine AOps.nil (k _ ?_)
   refine AWp.ret ?_
   cases h; exact rt
  ·refine AWp.skip ?_
   refine K_24 _ ?_
   refine sg fun K k => ?_
   refine oo ?_
   refine AOps.nil (k _ ?_)
   refine AWp.ret ?_
   cases h; exact rt
end Go.Pv.Tryd

namespace Go.Pv.Tryd
open Go.Proofs Go.Pv
theorem m_rate_market_round_ok (m1 : Market) (r : (List Int)) (h : m_rate_market_round m1 = some r) : PureFn Tryd.prog G 54 [.d (.agg [(.int .i64 m1.n), (.imm 4 (lenc Offer.pd m1.offers))])] (.d (lstD 1 (lenc (PD.int .i64) r))) := by
 unfold m_rate_market_round at h
 refine pf Tryd.func54 Tryd.ntmps54 ?_
 refine sg fun K k => ?_
 iterate 2 refine oo ?_
 refine AOps.nil (k _ ?_)
 refine jm (ι := Unit) [] [] (fun i t => t) (fun i t => t) .inl h ?_ ?_
 ·intro _ hj_2 h
  refine sg fun K k => ?_
  refine oo ?_
  refine AOps.nil (k _ ?_)
  refine AWp.block ?_
  obtain ⟨x_7, hl_4, h2_5⟩ := bind_some hj_2
  refine lp (S := Int) [1] [1000] (fun i t => (3, .d (.int .i64 i)) :: t) (fun i t => t) hl_4 ?_ ?_; exact sb; clear hl_4
  rintro length1 _ hb_6; unfold m_rate_market_round_l1 at hb_6; try dsimp only at hb_6
  try dsimp only
  refine AWp.seq fun _ K_9 => ?_
  refine sg fun K k => ?_
  iterate 4 refine oo ?_
  refine AOps.nil (k _ ?_)
  refine cd hb_6 (fun hb_6 => ?_) (fun hb_6 => ?_)
  ·refine AWp.skip ?_
   refine K_9 _ ?_
   refine jm (ι := Unit) [1, 3] [1000] (fun i t => t) (fun i t => t) .inl hb_6 ?_ ?_
   ·intro _ hj_12 hb_6
    refine AWp.block ?_
    refine sg fun K k => ?_
    refine oo ?_
    refine AOps.nil (k _ ?_)
    refine jn (α := (List Int)) [1, 3] [1000] (fun i t => (4, .ptr 1001 0 0) :: t) (fun i t => (1001, ⟨27, 1, [.d (lstD 1 (lenc (PD.int .i64) i))]⟩) :: t) hj_12 ?_ ?_
    ·intro _ hj_14
     refine sg fun K k => ?_
     iterate 3 refine oo ?_
     refine AOps.nil (k _ ?_)
     refine AWp.block ?_
     obtain ⟨x_19, hl_16, h2_17⟩ := bind_some hj_14
     refine lp (S := (Int × (List Int))) [1, 3, 14] [1000] (fun i t => (4, .ptr 1001 0 0) :: (15, .d (.int .i64 i.1)) :: t) (fun i t => (1001, ⟨27, 1, [.d (lstD 1 (lenc (PD.int .i64) i.2))]⟩) :: t) hl_16 ?_ ?_; exact sb; clear hl_16
     rintro ⟨v1, c2⟩ _ hb_18; unfold m_rate_market_round_l2 at hb_18; try dsimp only at hb_18
     try dsimp only
     refine sg fun K k => ?_
     refine oo ?_
     refine AOps.nil (k _ ?_)
     refine AWp.seq fun _ K_21 => ?_
     refine cd hb_18 (fun hb_18 => ?_) (fun hb_18 => ?_)
     ·refine AWp.skip ?_
      refine K_21 _ ?_
      refine jn (α := (List Int)) [1, 3, 14, 15] [1000] (fun i t => (4, .ptr 1001 0 0) :: t) (fun i t => (1001, ⟨27, 1, [.d (lstD 1 (lenc (PD.int .i64) i))]⟩) :: t) hb_18 ?_ ?_
      ·intro _ hj_24
       refine AWp.block ?_
       refine sg fun K k => ?_
       iterate 2 refine oo ?_
       refine AOps.nil (k _ ?_)
       refine sg fun K k => ?_
       iterate 3 refine oo ?_
       obtain ⟨hg_25, hj_24⟩ := guardO_some hj_24
       refine AOps.consU fun K' hK' => ?_; simp (disch := omega) only [go_sem, ↓reduceIte]; refine OpT.call (by rfl) (by rfl) (by kernel_rfl) (walks_fn m1 v1 length1 true) (by exact ⟨rfl, rfl, rfl, rfl, trivial⟩) (by simp only [go_sem, ↓reduceIte]) ?_ (by simp only [go_sem]); simp only [go_sem, ↓reduceIte]; refine hK' _ ?_; clear hK' K'
       refine AOps.nil (k _ ?_)
       refine AWp.block ?_
       refine AWp.sub (τ := ⟨[(1, .ptr 1000 0 0), (3, .d (.int .i64 length1)), (4, .ptr 1001 0 0), (14, .d (.int .i64 m1.n)), (15, .d (.int .i64 v1)), (21, .func (.func 93) [.dptr 2 [(.agg [(.int .i64 m1.n), (.imm 4 (lenc Offer.pd m1.offers))])] 0 0, .dptr 1 [.int .i64 length1] 0 0, .dptr 1 [.int .i64 v1] 0 0, .dptr 1 [.bool true] 0 0])], [(1000, ⟨77, 2, [.d (.agg [(.int .i64 m1.n), (.imm 4 (lenc Offer.pd m1.offers))])]⟩), (1001, ⟨27, 1, [.d (lstD 1 (lenc (PD.int .i64) c2))]⟩)], [], none⟩) sb ?_
       obtain ⟨o_38, hl_39, h2_40⟩ := bind_some hj_24
       refine AWp.rangeL Walk.pd (walksL m1 v1 length1 true) (fun i_43 : (List Int) => [(1000, ⟨77, 2, [.d (.agg [(.int .i64 m1.n), (.imm 4 (lenc Offer.pd m1.offers))])]⟩), (1001, ⟨27, 1, [.d (lstD 1 (lenc (PD.int .i64) i_43))]⟩)]) 4 (fun i_43 : (List Int) => [(1000, ⟨77, 2, [.d (.agg [(.int .i64 m1.n), (.imm 4 (lenc Offer.pd m1.offers))])]⟩), (1001, ⟨27, 1, [.d (lstD 1 (lenc (PD.int .i64) i_43))]⟩)]) (m_rate_market_round_r3) c2 (by rfl) (by simp only [go_sem]) (by kernel_rfl) (walks_seq m1 v1 length1 true hg_25) rfl rfl (by rfl) (by decide) (by simp only [go_sem, clean, cleanL, dl_clean, ↓reduceIte]) (fun _ => by simp only [go_sem, clean, cleanL, dl_clean, ↓reduceIte]) (fun _ => by simp only [go_sem, clean, cleanL, dl_clean, ↓reduceIte]) hl_39 ?_ ?_ ?_
       ·rintro l_29 c4 x1 q_28 hraw_26
        have hb_27 := hraw_26
        unfold m_rate_market_round_r3 at hb_27
        try dsimp only at hb_27
        try dsimp only
        simp only [eput, ↓reduceIte, Nat.reduceEqDiff]
        refine AWp.reg ?_
        iterate 2 refine oo ?_
        refine AOps.nil ?_
        refine AWp.block ?_
        refine sg fun K k => ?_
        iterate 3 refine oo ?_
        obtain ⟨r1, hx_30, hb_27⟩ := bind_some hb_27
        refine cl (m_rate_above_ok x1.rate (⟨1, 1⟩ : Ratio) _ hx_30) ?_
        refine AOps.nil (k _ ?_)
        refine cd hb_27 (fun hb_27 => ?_) (fun hb_27 => ?_)
        ·refine jn (α := (List Int)) [1, 3, 14, 15, 22] [1000] (fun i t => (4, .ptr 1001 0 0) :: t) (fun i t => (1001, ⟨27, 1, [.d (lstD 1 (lenc (PD.int .i64) i))]⟩) :: t) hb_27 ?_ ?_
         ·intro _ hj_33
          refine sg fun K k => ?_
          iterate 3 refine oo ?_
          obtain ⟨b1, hc_34, hj_33⟩ := bind_some hj_33
          refine ct 6 [1, 3, 4, 6, 14, 15, 22] [1000, 1001, 1002] (fun  t => (35, .d (.bool b1)) :: t) ?_ ?_
          ·rcases bt ((c4).isEmpty) with hg_36 | hg_36
           ·rw [hg_36]
            rw [hg_36, cond_true] at hc_34
            iterate 6 refine oo ?_
            refine AOps.nil ?_
            cases hc_34
            exact sb
           ·rw [hg_36]
            rw [hg_36, cond_false] at hc_34
            iterate 3 refine oo ?_
            refine AOps.sub (τ := ⟨[(1, .ptr 1000 0 0), (3, .d (.int .i64 length1)), (4, .ptr 1001 0 0), (6, .ptr 1002 0 0), (14, .d (.int .i64 m1.n)), (15, .d (.int .i64 v1)), (22, .d (.agg [(lstD 1 (lenc (PD.int .i64) x1.list)), (.int .i64 x1.rate.Num), (.int .i64 x1.rate.Den), (.int .i64 x1.to)])), (29, .d (.bool false)), (30, .ptr 1002 0 0), (31, .d (.imm 1 (lenc (PD.int .i64) x1.list))), (32, .d (.imm 1 (lenc (PD.int .i64) c4)))], [(1000, ⟨77, 2, [.d (.agg [(.int .i64 m1.n), (.imm 4 (lenc Offer.pd m1.offers))])]⟩), (1001, ⟨27, 1, [.d (lstD 1 (lenc (PD.int .i64) c4))]⟩), (1002, ⟨83, 4, [.d (.agg [(lstD 1 (lenc (PD.int .i64) x1.list)), (.int .i64 x1.rate.Num), (.int .i64 x1.rate.Den), (.int .i64 x1.to)])]⟩)], [.func (.func 0) (envL [(1, .ptr 1000 0 0), (3, .d (.int .i64 length1)), (4, .ptr 1001 0 0), (14, .d (.int .i64 m1.n)), (15, .d (.int .i64 v1)), (21, .func (.func 93) [.dptr 2 [(.agg [(.int .i64 m1.n), (.imm 4 (lenc Offer.pd m1.offers))])] 0 0, .dptr 1 [.int .i64 length1] 0 0, .dptr 1 [.int .i64 v1] 0 0, .dptr 1 [.bool true] 0 0])])], none⟩) sc ?_
            obtain ⟨r2, hx_35, hc_34⟩ := bind_some hc_34
            refine cl (m_slices_Compare_ok x1.list c4 _ hx_35) ?_
            iterate 2 refine oo ?_
            refine AOps.nil ?_
            cases hc_34
            exact sb
          refine AOps.nil (k _ ?_)
          refine cd hj_33 (fun hj_33 => ?_) (fun hj_33 => ?_)
          ·refine AWp.reg ?_
           iterate 3 refine oo ?_
           refine AOps.nil ?_
           cases hj_33; exact sb
          ·refine AWp.skip ?_
           cases hj_33; exact sb
         ·rintro c5 hb_27; dsimp only at hb_27 ⊢
          refine AWp.exit ?_
          show _ = _ ∧ ∃ y, _ = some (Sum.inr y) ∧ _
          exact ⟨rfl, c5, hraw_26.trans hb_27.symm, sb⟩
        ·refine AWp.skip ?_
         show ∃ s, _ = some (Sum.inl s) ∧ _
         exact ⟨c4, hraw_26.trans hb_27.symm, sb⟩
       ·rintro c4 hx_41
        rw [hx_41] at h2_40
        try dsimp only at h2_40
        try dsimp only
        simp only [Post.then, Post.inBlock, ↓reduceIte, Nat.reduceEqDiff]
        cases h2_40; exact sb
       ·rintro c41 hy_42
        rw [hy_42] at h2_40
        try dsimp only at h2_40
        try dsimp only
        simp only [Post.then, Post.inBlock, ↓reduceIte, Nat.reduceEqDiff]
        cases h2_40; exact sb
      ·rintro c3 hb_18; dsimp only at hb_18 ⊢
       refine AWp.reg ?_
       iterate 2 refine oo ?_
       refine AOps.nil ?_
       exact ln hb_18 sb
     ·refine AWp.exit ?_
      refine lx hb_18 fun hx => ?_; cases hx; try dsimp only at h2_17
      cases h2_17; exact sb
    ·rintro c1 hj_12; dsimp only at hj_12 ⊢
     refine sg fun K k => ?_
     iterate 2 refine oo ?_
     refine AOps.nil (k _ ?_)
     refine cd hj_12 (fun hj_12 => ?_) (fun hj_12 => ?_)
     ·refine sg fun K k => ?_
      iterate 2 refine oo ?_
      refine AOps.nil (k _ ?_)
      refine AWp.ret ?_
      cases hj_12; try dsimp only at hb_6
      refine lx hb_6 fun hx => ?_; cases hx; try dsimp only at h2_5
      cases h2_5; try dsimp only at h
      cases h; exact rt
     ·refine AWp.skip ?_
      exact ln hj_12 sb
   ·rintro _ hb_6; dsimp only at hb_6 ⊢
    refine AWp.reg ?_
    iterate 3 refine oo ?_
    refine AOps.nil ?_
    exact ln hb_6 sb
  ·refine AWp.exit ?_
   refine lx hb_6 fun hx => ?_; cases hx; try dsimp only at h2_5
   exact ln h2_5 sb
 ·rintro _ h; dsimp only at h ⊢
  refine sg fun K k => ?_
  refine oo ?_
  refine AOps.nil (k _ ?_)
  refine AWp.ret ?_
  cases h; exact rt
end Go.Pv.Tryd

namespace Go.Pv.Tryd
open Go.Proofs Go.Pv
theorem m_rate_market_best_ok (m1 : Market) (from1 : Int) (to1 : Int) (r : (Walk × Bool)) (h : m_rate_market_best m1 from1 to1 = some r) : PureFn Tryd.prog G 55 [.d (.agg [(.int .i64 m1.n), (.imm 4 (lenc Offer.pd m1.offers))]), .d (.int .i64 from1), .d (.int .i64 to1)] (.tuple [.d (.agg [(lstD 1 (lenc (PD.int .i64) r.1.list)), (.int .i64 r.1.rate.Num), (.int .i64 r.1.rate.Den), (.int .i64 r.1.to)]), .d (.bool r.2)]) := by
 unfold m_rate_market_best at h
 refine pf Tryd.func55 Tryd.ntmps55 ?_
 refine sg fun K k => ?_
 iterate 4 refine oo ?_
 refine AOps.nil (k _ ?_)
 refine AWp.seq fun _ K_1 => ?_
 refine sg fun K k => ?_
 iterate 3 refine oo ?_
 refine AOps.nil (k _ ?_)
 refine cd h (fun h => ?_) (fun h => ?_)
 ·refine sg fun K k => ?_
  iterate 4 refine oo ?_
  refine AOps.nil (k _ ?_)
  refine AWp.ret ?_
  cases h; exact rt
 ·refine AWp.skip ?_
  refine K_1 _ ?_
  refine sg fun K k => ?_
  iterate 5 refine oo ?_
  refine AOps.nil (k _ ?_)
  refine jn (α := (Walk × Bool)) [6] [1002] (fun i t => (8, .ptr 1003 0 0) :: (9, .ptr 1004 0 0) :: t) (fun i t => (1003, ⟨83, 4, [.d (.agg [(lstD 1 (lenc (PD.int .i64) i.1.list)), (.int .i64 i.1.rate.Num), (.int .i64 i.1.rate.Den), (.int .i64 i.1.to)])]⟩) :: (1004, ⟨4, 1, [.d (.bool i.2)]⟩) :: t) h ?_ ?_
  ·intro _ hj_4
   refine sg fun K k => ?_
   refine oo ?_
   refine AOps.nil (k _ ?_)
   refine AWp.block ?_
   obtain ⟨x_9, hl_6, h2_7⟩ := bind_some hj_4
   refine lp (S := (Int × Walk × Bool)) [1, 3, 5, 6] [1000, 1001, 1002] (fun i t => (8, .ptr 1003 0 0) :: (9, .ptr 1004 0 0) :: (10, .d (.int .i64 i.1)) :: t) (fun i t => (1003, ⟨83, 4, [.d (.agg [(lstD 1 (lenc (PD.int .i64) i.2.1.list)), (.int .i64 i.2.1.rate.Num), (.int .i64 i.2.1.rate.Den), (.int .i64 i.2.1.to)])]⟩) :: (1004, ⟨4, 1, [.d (.bool i.2.2)]⟩) :: t) hl_6 ?_ ?_; exact sb; clear hl_6
   rintro ⟨length1, c3, c4⟩ _ hb_8; unfold m_rate_market_best_l1 at hb_8; try dsimp only at hb_8
   try dsimp only
   refine AWp.seq fun _ K_11 => ?_
   refine sg fun K k => ?_
   iterate 4 refine oo ?_
   refine AOps.nil (k _ ?_)
   refine cd hb_8 (fun hb_8 => ?_) (fun hb_8 => ?_)
   ·refine AWp.skip ?_
    refine K_11 _ ?_
    refine jn (α := (Walk × Bool)) [1, 3, 5, 6, 10] [1000, 1001, 1002] (fun i t => (8, .ptr 1003 0 0) :: (9, .ptr 1004 0 0) :: t) (fun i t => (1003, ⟨83, 4, [.d (.agg [(lstD 1 (lenc (PD.int .i64) i.1.list)), (.int .i64 i.1.rate.Num), (.int .i64 i.1.rate.Den), (.int .i64 i.1.to)])]⟩) :: (1004, ⟨4, 1, [.d (.bool i.2)]⟩) :: t) hb_8 ?_ ?_
    ·intro _ hj_14
     refine AWp.block ?_
     refine sg fun K k => ?_
     iterate 3 refine oo ?_
     obtain ⟨hg_15, hj_14⟩ := guardO_some hj_14
     refine AOps.consU fun K' hK' => ?_; simp (disch := omega) only [go_sem, ↓reduceIte]; refine OpT.call (by rfl) (by rfl) (by kernel_rfl) (walks_fn m1 from1 length1 false) (by exact ⟨rfl, rfl, rfl, rfl, trivial⟩) (by simp only [go_sem, ↓reduceIte]) ?_ (by simp only [go_sem]); simp only [go_sem, ↓reduceIte]; refine hK' _ ?_; clear hK' K'
     refine AOps.nil (k _ ?_)
     refine AWp.block ?_
     refine AWp.sub (τ := ⟨[(1, .d (.int .i64 from1)), (3, .ptr 1000 0 0), (5, .ptr 1001 0 0), (6, .ptr 1002 0 0), (8, .ptr 1003 0 0), (9, .ptr 1004 0 0), (10, .d (.int .i64 length1)), (27, .func (.func 93) [.dptr 2 [(.agg [(.int .i64 m1.n), (.imm 4 (lenc Offer.pd m1.offers))])] 0 0, .dptr 1 [.int .i64 length1] 0 0, .dptr 1 [.int .i64 from1] 0 0, .dptr 1 [.bool false] 0 0])], [(1000, ⟨77, 2, [.d (.agg [(.int .i64 m1.n), (.imm 4 (lenc Offer.pd m1.offers))])]⟩), (1001, ⟨3, 1, [.d (.int .i64 to1)]⟩), (1002, ⟨83, 4, [.d (.agg [.nilslice, (.int .i64 0), (.int .i64 0), (.int .i64 0)])]⟩), (1003, ⟨83, 4, [.d (.agg [(lstD 1 (lenc (PD.int .i64) c3.list)), (.int .i64 c3.rate.Num), (.int .i64 c3.rate.Den), (.int .i64 c3.to)])]⟩), (1004, ⟨4, 1, [.d (.bool c4)]⟩)], [], none⟩) sb ?_
     obtain ⟨o_26, hl_27, h2_28⟩ := bind_some hj_14
     refine AWp.rangeL Walk.pd (walksL m1 from1 length1 false) (fun i_31 : (Walk × Bool) => [(1000, ⟨77, 2, [.d (.agg [(.int .i64 m1.n), (.imm 4 (lenc Offer.pd m1.offers))])]⟩), (1001, ⟨3, 1, [.d (.int .i64 to1)]⟩), (1002, ⟨83, 4, [.d (.agg [.nilslice, (.int .i64 0), (.int .i64 0), (.int .i64 0)])]⟩), (1003, ⟨83, 4, [.d (.agg [(lstD 1 (lenc (PD.int .i64) i_31.1.list)), (.int .i64 i_31.1.rate.Num), (.int .i64 i_31.1.rate.Den), (.int .i64 i_31.1.to)])]⟩), (1004, ⟨4, 1, [.d (.bool i_31.2)]⟩)]) 0 (fun i_31 : (Walk × Bool) => [(1000, ⟨77, 2, [.d (.agg [(.int .i64 m1.n), (.imm 4 (lenc Offer.pd m1.offers))])]⟩), (1001, ⟨3, 1, [.d (.int .i64 to1)]⟩), (1002, ⟨83, 4, [.d (.agg [.nilslice, (.int .i64 0), (.int .i64 0), (.int .i64 0)])]⟩), (1003, ⟨83, 4, [.d (.agg [(lstD 1 (lenc (PD.int .i64) i_31.1.list)), (.int .i64 i_31.1.rate.Num), (.int .i64 i_31.1.rate.Den), (.int .i64 i_31.1.to)])]⟩), (1004, ⟨4, 1, [.d (.bool i_31.2)]⟩)]) (m_rate_market_best_r2 to1) (c3, c4) (by rfl) (by simp only [go_sem]) (by kernel_rfl) (walks_seq m1 from1 length1 false hg_15) rfl rfl (by rfl) (by decide) (by simp only [go_sem, clean, cleanL, dl_clean, ↓reduceIte]) (fun _ => by simp only [go_sem, clean, cleanL, dl_clean, ↓reduceIte]) (fun _ => by simp only [go_sem, clean, cleanL, dl_clean, ↓reduceIte]) hl_27 ?_ ?_ ?_
     ·rintro l_19 ⟨c7, c8⟩ x1 q_18 hraw_16
      have hb_17 := hraw_16
      unfold m_rate_market_best_r2 at hb_17
      try dsimp only at hb_17
      try dsimp only
      simp only [eput, ↓reduceIte, Nat.reduceEqDiff]
      refine AWp.reg ?_
      iterate 2 refine oo ?_
      refine AOps.nil ?_
      refine AWp.block ?_
      refine sg fun K k => ?_
      iterate 5 refine oo ?_
      obtain ⟨b1, hc_20, hb_17⟩ := bind_some hb_17
      refine ct 10 [8, 9, 11] [1000, 1001, 1002, 1003, 1004, 1005] (fun  t => (43, .d (.bool b1)) :: t) ?_ ?_
      ·rcases bt (decide (x1.to = to1)) with hg_24 | hg_24
       ·rw [hg_24]
        rw [hg_24, cond_true] at hc_20
        iterate 3 refine oo ?_
        obtain ⟨b2, hc_21, hc_20⟩ := bind_some hc_20
        refine ct 6 [8, 9, 11, 33] [1000, 1001, 1002, 1003, 1004, 1005] (fun  t => (42, .d (.bool b2)) :: t) ?_ ?_
        ·rcases bt (!c8) with hg_23 | hg_23
         ·rw [hg_23]
          rw [hg_23, cond_true] at hc_21
          iterate 6 refine oo ?_
          refine AOps.nil ?_
          cases hc_21
          exact sb
         ·rw [hg_23]
          rw [hg_23, cond_false] at hc_21
          iterate 4 refine oo ?_
          obtain ⟨r1, hx_22, hc_21⟩ := bind_some hc_21
          refine cl (m_rate_above_ok x1.rate c7.rate _ hx_22) ?_
          refine oo ?_
          refine AOps.nil ?_
          cases hc_21
          exact sb
        refine oo ?_
        refine AOps.nil ?_
        cases hc_20
        exact sb
       ·rw [hg_24]
        rw [hg_24, cond_false] at hc_20
        iterate 10 refine oo ?_
        refine AOps.nil ?_
        cases hc_20
        exact sb
      refine AOps.nil (k _ ?_)
      refine cd hb_17 (fun hb_17 => ?_) (fun hb_17 => ?_)
      ·refine AWp.reg ?_
       iterate 3 refine oo ?_
       refine AOps.nil ?_
       show ∃ s, _ = some (Sum.inl s) ∧ _
       exact ⟨(x1, true), hraw_16.trans hb_17.symm, sb⟩
      ·refine AWp.skip ?_
       show ∃ s, _ = some (Sum.inl s) ∧ _
       exact ⟨(c7, c8), hraw_16.trans hb_17.symm, sb⟩
     ·rintro ⟨c7, c8⟩ hx_29
      rw [hx_29] at h2_28
      try dsimp only at h2_28
      try dsimp only
      simp only [Post.then, Post.inBlock, ↓reduceIte, Nat.reduceEqDiff]
      cases h2_28; exact sb
     ·rintro ⟨c71, c81⟩ hy_30
      rw [hy_30] at h2_28
      try dsimp only at h2_28
      try dsimp only
      simp only [Post.then, Post.inBlock, ↓reduceIte, Nat.reduceEqDiff]
      cases h2_28
    ·rintro ⟨c5, c6⟩ hb_8; dsimp only at hb_8 ⊢
     refine AWp.reg ?_
     iterate 3 refine oo ?_
     refine AOps.nil ?_
     exact ln hb_8 sb
   ·refine AWp.exit ?_
    refine lx hb_8 fun hx => ?_; cases hx; try dsimp only at h2_7
    cases h2_7; exact sb
  ·rintro ⟨c1, c2⟩ h; dsimp only at h ⊢
   refine sd mo fun K k => ?_
   iterate 4 refine dd ?_
   refine DOps.nil (by kernel_rfl) (k _ ?_)
   refine AWp.ret ?_
   cases h; exact rt
end Go.Pv.Tryd

namespace Go.Pv.Tryd
open Go.Proofs Go.Pv
theorem m_rate_Prices_ok (n1 : Int) (offers1 : (List Offer)) (r : ((List Ratio) × Int)) (h : m_rate_Prices n1 offers1 = some r) : PureFn Tryd.prog G 23 [.d (.int .i64 n1), .d (.imm 4 (lenc Offer.pd offers1))] (.tuple [.d (.imm 2 (lenc Ratio.pd r.1)), .d (.int .i64 r.2)]) := by
 unfold m_rate_Prices at h
 refine pf Tryd.func23 Tryd.ntmps23 ?_
 refine sg fun K k => ?_
 iterate 2 refine oo ?_
 refine AOps.nil (k _ ?_)
 refine sg fun K k => ?_
 iterate 2 refine oo ?_
 obtain ⟨r1, hx_1, h⟩ := bind_some h
 refine cl (m_rate_of_ok n1 offers1 _ hx_1) ?_
 iterate 6 refine oo ?_
 refine AOps.nil (k _ ?_)
 refine AWp.seq fun _ K_2 => ?_
 refine sg fun K k => ?_
 iterate 2 refine oo ?_
 refine AOps.nil (k _ ?_)
 refine cd h (fun h => ?_) (fun h => ?_)
 ·refine sg fun K k => ?_
  iterate 3 refine oo ?_
  refine AOps.nil (k _ ?_)
  refine AWp.ret ?_
  cases h; exact rt
 ·refine AWp.skip ?_
  refine K_2 _ ?_
  refine AWp.seq fun _ K_4 => ?_
  refine sg fun K k => ?_
  refine oo ?_
  obtain ⟨r2, hx_5, h⟩ := bind_some h
  refine cl (m_rate_market_round_ok r1.1 _ hx_5) ?_
  refine oo ?_
  refine AOps.nil (k _ ?_)
  refine cd h (fun h => ?_) (fun h => ?_)
  ·refine sg fun K k => ?_
   iterate 2 refine oo ?_
   refine AOps.nil (k _ ?_)
   refine AWp.ret ?_
   cases h; exact rt
  ·refine AWp.skip ?_
   refine K_4 _ ?_
   refine sg fun K k => ?_
   refine oo ?_
   refine AOps.nil (k _ ?_)
   refine AWp.sub (Sub.void 8 26 2 1001 (by rfl) (by rfl) (by decide) (by decide)) ?_
   simp only [eput, hput, reduceCtorEq, ↓reduceIte, Nat.reduceAdd, Nat.reduceMul, Nat.reduceLT, Nat.reduceLeDiff, Nat.reduceEqDiff, Nat.reduceBEq, Int.reduceToNat]
   refine jn (α := (List Ratio)) [] [] (fun i t => (8, .slc 1001 0 i.length) :: t) (fun i t => (1001, ⟨26, 2, dl (lenc Ratio.pd i)⟩) :: t) h ?_ ?_
   ·intro _ hj_8
    refine sg fun K k => ?_
    iterate 2 refine oo ?_
    refine AOps.nil (k _ ?_)
    refine AWp.block ?_
    obtain ⟨x_13, hl_10, h2_11⟩ := bind_some hj_8
    refine lp (S := (Int × (List Ratio))) [0, 6, 26] [1000] (fun i t => (8, .slc 1001 0 i.2.length) :: (27, .d (.int .i64 i.1)) :: t) (fun i t => (1001, ⟨26, 2, dl (lenc Ratio.pd i.2)⟩) :: t) hl_10 ?_ ?_; exact sb; clear hl_10
    rintro ⟨v1, L2⟩ _ hb_12; unfold m_rate_Prices_l1 at hb_12; try dsimp only at hb_12
    try dsimp only
    refine sg fun K k => ?_
    refine oo ?_
    refine AOps.nil (k _ ?_)
    refine AWp.seq fun _ K_15 => ?_
    refine cd hb_12 (fun hb_12 => ?_) (fun hb_12 => ?_)
    ·refine AWp.skip ?_
     refine K_15 _ ?_
     refine jn (α := (List Ratio)) [0, 6, 26, 27] [1000] (fun i t => (8, .slc 1001 0 i.length) :: t) (fun i t => (1001, ⟨26, 2, dl (lenc Ratio.pd i)⟩) :: t) hb_12 ?_ ?_
     ·intro _ hj_18
      refine AWp.block ?_
      refine sg fun K k => ?_
      iterate 2 refine oo ?_
      refine AOps.nil (k _ ?_)
      refine sg fun K k => ?_
      iterate 3 refine oo ?_
      refine AOps.nil (k _ ?_)
      refine jn (α := Ratio) [0, 6, 8, 26, 27] [1000, 1001] (fun i t => (10, .ptr 1002 0 0) :: t) (fun i t => (1002, ⟨26, 2, [.d (.agg [(.int .i64 i.Num), (.int .i64 i.Den)])]⟩) :: t) hj_18 ?_ ?_
      ·intro _ hj_20
       refine sg fun K k => ?_
       iterate 2 refine oo ?_
       refine AOps.nil (k _ ?_)
       refine AWp.block ?_
       obtain ⟨x_25, hl_22, h2_23⟩ := bind_some hj_20
       refine lp (S := (Int × Ratio)) [0, 6, 8, 9, 26, 27, 31] [1000, 1001] (fun i t => (10, .ptr 1002 0 0) :: (32, .d (.int .i64 i.1)) :: t) (fun i t => (1002, ⟨26, 2, [.d (.agg [(.int .i64 i.2.Num), (.int .i64 i.2.Den)])]⟩) :: t) hl_22 ?_ ?_; exact sb; clear hl_22
       rintro ⟨v2, c2⟩ _ hb_24; unfold m_rate_Prices_l2 at hb_24; try dsimp only at hb_24
       try dsimp only
       refine sg fun K k => ?_
       refine oo ?_
       refine AOps.nil (k _ ?_)
       refine AWp.seq fun _ K_27 => ?_
       refine cd hb_24 (fun hb_24 => ?_) (fun hb_24 => ?_)
       ·refine AWp.skip ?_
        refine K_27 _ ?_
        refine jn (α := Ratio) [0, 6, 8, 9, 26, 27, 31, 32] [1000, 1001] (fun i t => (10, .ptr 1002 0 0) :: t) (fun i t => (1002, ⟨26, 2, [.d (.agg [(.int .i64 i.Num), (.int .i64 i.Den)])]⟩) :: t) hb_24 ?_ ?_
        ·intro _ hj_30
         refine AWp.block ?_
         refine sg fun K k => ?_
         iterate 2 refine oo ?_
         refine AOps.nil (k _ ?_)
         refine sg fun K k => ?_
         iterate 3 refine oo ?_
         obtain ⟨r3, hx_31, hj_30⟩ := bind_some hj_30
         refine cl (m_rate_market_best_ok r1.1 v1 v2 _ hx_31) ?_
         iterate 6 refine oo ?_
         refine AOps.nil (k _ ?_)
         refine sg fun K k => ?_
         iterate 2 refine oo ?_
         obtain ⟨b1, hc_32, hj_30⟩ := bind_some hj_30
         refine ct 5 [0, 6, 8, 9, 10, 12, 26, 27, 31, 32] [1000, 1001, 1002, 1003] (fun  t => (48, .d (.bool b1)) :: t) ?_ ?_
         ·rcases bt r3.2 with hg_34 | hg_34
          ·rw [hg_34]
           rw [hg_34, cond_true] at hc_32
           iterate 3 refine oo ?_
           obtain ⟨r4, hx_33, hc_32⟩ := bind_some hc_32
           refine cl (m_rate_above_ok r3.1.rate c2 _ hx_33) ?_
           refine oo ?_
           refine AOps.nil ?_
           cases hc_32
           exact sb
          ·rw [hg_34]
           rw [hg_34, cond_false] at hc_32
           iterate 5 refine oo ?_
           refine AOps.nil ?_
           cases hc_32
           exact sb
         refine AOps.nil (k _ ?_)
         refine cd hj_30 (fun hj_30 => ?_) (fun hj_30 => ?_)
         ·refine AWp.reg ?_
          iterate 3 refine oo ?_
          refine AOps.nil ?_
          cases hj_30; exact sb
         ·refine AWp.skip ?_
          cases hj_30; exact sb
        ·rintro c3 hb_24; dsimp only at hb_24 ⊢
         refine AWp.reg ?_
         iterate 2 refine oo ?_
         refine AOps.nil ?_
         exact ln hb_24 sb
       ·refine AWp.exit ?_
        refine lx hb_24 fun hx => ?_; cases hx; try dsimp only at h2_23
        cases h2_23; exact sb
      ·rintro c1 hj_18; dsimp only at hj_18 ⊢
       refine AWp.reg ?_
       iterate 2 refine oo ?_
       refine ol ?_
       obtain ⟨hg_36, hj_18⟩ := guardO_some hj_18
       iterate 2 refine oo ?_
       refine AOps.nil ?_
       cases hj_18; exact sb
     ·rintro L3 hb_12; dsimp only at hb_12 ⊢
      refine AWp.reg ?_
      iterate 2 refine oo ?_
      refine AOps.nil ?_
      exact ln hb_12 sb
    ·refine AWp.exit ?_
     refine lx hb_12 fun hx => ?_; cases hx; try dsimp only at h2_11
     cases h2_11; exact sb
   ·rintro L1 h; dsimp only at h ⊢
    refine sg fun K k => ?_
    iterate 3 refine oo ?_
    refine AOps.nil (k _ ?_)
    refine AWp.ret ?_
    cases h; exact rt
end Go.Pv.Tryd

namespace Go.Pv.Tryd
open Go.Proofs Go.Pv
theorem m_rate_Best_ok (n1 : Int) (offers1 : (List Offer)) (from1 : Int) (to1 : Int) (r : (Ratio × (List Int) × Int)) (h : m_rate_Best n1 offers1 from1 to1 = some r) : PureFn Tryd.prog G 20 [.d (.int .i64 n1), .d (.imm 4 (lenc Offer.pd offers1)), .d (.int .i64 from1), .d (.int .i64 to1)] (.tuple [.d (.agg [(.int .i64 r.1.Num), (.int .i64 r.1.Den)]), .d (.imm 1 (lenc (PD.int .i64) r.2.1)), .d (.int .i64 r.2.2)]) := by
 unfold m_rate_Best at h
 refine pf Tryd.func20 Tryd.ntmps20 ?_
 refine sg fun K k => ?_
 iterate 3 refine oo ?_
 refine AOps.nil (k _ ?_)
 refine sg fun K k => ?_
 iterate 2 refine oo ?_
 obtain ⟨r1, hx_1, h⟩ := bind_some h
 refine cl (m_rate_of_ok n1 offers1 _ hx_1) ?_
 iterate 6 refine oo ?_
 refine AOps.nil (k _ ?_)
 refine AWp.seq fun _ K_2 => ?_
 refine AWp.block ?_
 refine sg fun K k => ?_
 iterate 3 refine oo ?_
 refine AOps.nil (k _ ?_)
 refine cd h (fun h => ?_) (fun h => ?_)
 ·refine sg fun K k => ?_
  iterate 5 refine oo ?_
  refine AOps.nil (k _ ?_)
  refine AWp.ret ?_
  cases h; exact rt
 ·refine sg fun K k => ?_
  iterate 2 refine oo ?_
  obtain ⟨r2, hx_4, h⟩ := bind_some h
  refine cl (m_rate_market_has_ok r1.1 from1 _ hx_4) ?_
  iterate 2 refine oo ?_
  obtain ⟨b1, hc_5, h⟩ := bind_some h
  refine ct 5 [2, 3, 8, 11] [1000, 1001] (fun  t => (36, .d (.bool b1)) :: t) ?_ ?_
  ·rcases bt (!r2) with hg_7 | hg_7
   ·rw [hg_7]
    rw [hg_7, cond_true] at hc_5
    iterate 5 refine oo ?_
    refine AOps.nil ?_
    cases hc_5
    exact sb
   ·rw [hg_7]
    rw [hg_7, cond_false] at hc_5
    iterate 2 refine oo ?_
    obtain ⟨r3, hx_6, hc_5⟩ := bind_some hc_5
    refine cl (m_rate_market_has_ok r1.1 to1 _ hx_6) ?_
    iterate 2 refine oo ?_
    refine AOps.nil ?_
    cases hc_5
    exact sb
  refine oo ?_
  refine AOps.nil (k _ ?_)
  refine cd h (fun h => ?_) (fun h => ?_)
  ·refine sg fun K k => ?_
   iterate 4 refine oo ?_
   refine AOps.nil (k _ ?_)
   refine AWp.ret ?_
   cases h; exact rt
  ·refine sg fun K k => ?_
   refine oo ?_
   obtain ⟨r4, hx_9, h⟩ := bind_some h
   refine cl (m_rate_market_round_ok r1.1 _ hx_9) ?_
   iterate 2 refine oo ?_
   refine AOps.nil (k _ ?_)
   refine cd h (fun h => ?_) (fun h => ?_)
   ·refine sg fun K k => ?_
    iterate 4 refine oo ?_
    refine AOps.nil (k _ ?_)
    refine AWp.ret ?_
    cases h; exact rt
   ·refine AWp.skip ?_
    refine K_2 _ ?_
    refine sg fun K k => ?_
    iterate 3 refine oo ?_
    obtain ⟨r5, hx_11, h⟩ := bind_some h
    refine cl (m_rate_market_best_ok r1.1 from1 to1 _ hx_11) ?_
    iterate 6 refine oo ?_
    refine AOps.nil (k _ ?_)
    refine AWp.seq fun _ K_12 => ?_
    refine sg fun K k => ?_
    iterate 2 refine oo ?_
    refine AOps.nil (k _ ?_)
    refine cd h (fun h => ?_) (fun h => ?_)
    ·refine sg fun K k => ?_
     iterate 4 refine oo ?_
     refine AOps.nil (k _ ?_)
     refine AWp.ret ?_
     cases h; exact rt
    ·refine AWp.skip ?_
     refine K_12 _ ?_
     refine sd mo fun K k => ?_
     iterate 7 refine dd ?_
     refine DOps.nil (by kernel_rfl) (k _ ?_)
     refine AWp.ret ?_
     cases h; exact rt
end Go.Pv.Tryd

namespace Go.Pv.Tryd
open Go.Proofs Go.Pv
theorem m_rate_Round_ok (n1 : Int) (offers1 : (List Offer)) (r : ((List Int) × Int)) (h : m_rate_Round n1 offers1 = some r) : PureFn Tryd.prog G 26 [.d (.int .i64 n1), .d (.imm 4 (lenc Offer.pd offers1))] (.tuple [.d (.imm 1 (lenc (PD.int .i64) r.1)), .d (.int .i64 r.2)]) := by
 unfold m_rate_Round at h
 refine pf Tryd.func26 Tryd.ntmps26 ?_
 refine sg fun K k => ?_
 iterate 2 refine oo ?_
 refine AOps.nil (k _ ?_)
 refine sg fun K k => ?_
 iterate 2 refine oo ?_
 obtain ⟨r1, hx_1, h⟩ := bind_some h
 refine cl (m_rate_of_ok n1 offers1 _ hx_1) ?_
 iterate 6 refine oo ?_
 refine AOps.nil (k _ ?_)
 refine AWp.seq fun _ K_2 => ?_
 refine sg fun K k => ?_
 iterate 2 refine oo ?_
 refine AOps.nil (k _ ?_)
 refine cd h (fun h => ?_) (fun h => ?_)
 ·refine sg fun K k => ?_
  iterate 3 refine oo ?_
  refine AOps.nil (k _ ?_)
  refine AWp.ret ?_
  cases h; exact rt
 ·refine AWp.skip ?_
  refine K_2 _ ?_
  refine sg fun K k => ?_
  refine oo ?_
  obtain ⟨r2, hx_4, h⟩ := bind_some h
  refine cl (m_rate_market_round_ok r1.1 _ hx_4) ?_
  refine oo ?_
  refine AOps.nil (k _ ?_)
  refine AWp.seq fun _ K_5 => ?_
  refine sg fun K k => ?_
  iterate 2 refine oo ?_
  refine AOps.nil (k _ ?_)
  refine cd h (fun h => ?_) (fun h => ?_)
  ·refine sg fun K k => ?_
   iterate 2 refine oo ?_
   refine AOps.nil (k _ ?_)
   refine AWp.ret ?_
   cases h; exact rt
  ·refine AWp.skip ?_
   refine K_5 _ ?_
   refine sg fun K k => ?_
   iterate 3 refine oo ?_
   refine AOps.nil (k _ ?_)
   refine AWp.ret ?_
   cases h; exact rt
end Go.Pv.Tryd

namespace Go.Pv.Tryd
open Go.Proofs Go.Pv
theorem m_cocketlaw01_same_ok (a1 : (List Int)) (b1 : (List Int)) (r : Bool) (h : m_cocketlaw01_same a1 b1 = some r) : PureFn Tryd.prog G 21 [.d (.imm 1 (lenc (PD.int .i64) a1)), .d (.imm 1 (lenc (PD.int .i64) b1))] (.d (.bool r)) := by
 unfold m_cocketlaw01_same at h
 refine pf Tryd.func21 Tryd.ntmps21 ?_
 refine sg fun K k => ?_
 refine oo ?_
 refine AOps.nil (k _ ?_)
 refine AWp.seq fun _ K_1 => ?_
 refine sg fun K k => ?_
 iterate 5 refine oo ?_
 refine AOps.nil (k _ ?_)
 refine cd h (fun h => ?_) (fun h => ?_)
 ·refine sg fun K k => ?_
  refine oo ?_
  refine AOps.nil (k _ ?_)
  refine AWp.ret ?_
  cases h; exact rt
 ·refine AWp.skip ?_
  refine K_1 _ ?_
  refine jm (ι := Unit) [] [] (fun i t => t) (fun i t => t) .inl h ?_ ?_
  ·intro _ hj_4 h
   refine sg fun K k => ?_
   refine oo ?_
   refine AOps.nil (k _ ?_)
   refine AWp.block ?_
   obtain ⟨x_9, hl_6, h2_7⟩ := bind_some hj_4
   refine lp (S := Int) [0, 1] [] (fun i t => (5, .d (.int .i64 i)) :: t) (fun i t => t) hl_6 ?_ ?_; exact sb; clear hl_6
   rintro i1 _ hb_8; unfold m_cocketlaw01_same_l1 at hb_8; try dsimp only at hb_8
   try dsimp only
   refine AWp.seq fun _ K_11 => ?_
   refine sg fun K k => ?_
   iterate 4 refine oo ?_
   refine AOps.nil (k _ ?_)
   refine cd hb_8 (fun hb_8 => ?_) (fun hb_8 => ?_)
   ·refine AWp.skip ?_
    refine K_11 _ ?_
    refine AWp.seq fun _ K_13 => ?_
    refine AWp.block ?_
    refine sd mo fun K k => ?_
    obtain ⟨e1, ⟨f_14, f_15, f_16, f_17⟩, hb_8⟩ := idx_bind hb_8
    iterate 3 refine dd ?_
    refine dd ?_ (by intro K k; simp (disch := omega) only [go_sem, f_16, ↓reduceIte]; exact k)
    obtain ⟨e2, ⟨f_18, f_19, f_20, f_21⟩, hb_8⟩ := idx_bind hb_8
    iterate 3 refine dd ?_
    refine dd ?_ (by intro K k; simp (disch := omega) only [go_sem, f_20, ↓reduceIte]; exact k)
    refine dd ?_
    refine DOps.nil (by kernel_rfl) (k _ ?_)
    refine cd hb_8 (fun hb_8 => ?_) (fun hb_8 => ?_)
    ·refine sg fun K k => ?_
     refine oo ?_
     refine AOps.nil (k _ ?_)
     refine AWp.ret ?_
     refine lx hb_8 fun hx => ?_; cases hx; try dsimp only at h2_7
     cases h2_7; try dsimp only at h
     cases h; exact rt
    ·refine AWp.skip ?_
     refine K_13 _ ?_
     refine AWp.reg ?_
     iterate 3 refine oo ?_
     refine AOps.nil ?_
     exact ln hb_8 sb
   ·refine AWp.exit ?_
    refine lx hb_8 fun hx => ?_; cases hx; try dsimp only at h2_7
    exact ln h2_7 sb
  ·rintro _ h; dsimp only at h ⊢
   refine sg fun K k => ?_
   refine oo ?_
   refine AOps.nil (k _ ?_)
   refine AWp.ret ?_
   cases h; exact rt
end Go.Pv.Tryd

namespace Go.Pv.Tryd
open Go.Proofs Go.Pv
theorem m_cocketlaw01_alive_ok (r : Bool) (h : m_cocketlaw01_alive = some r) : PureFn Tryd.prog G 18 [] (.d (.bool r)) := by
 unfold m_cocketlaw01_alive at h
 refine pf Tryd.func18 Tryd.ntmps18 ?_
 refine sg fun K k => ?_
 refine oo ?_
 refine AOps.nil (k _ ?_)
 refine sg fun K k => ?_
 obtain ⟨r1, hx_1, h⟩ := bind_some h
 refine clRow 1000 (m_cocketlaw01_ring_ok _ hx_1) ?_
 refine AOps.sub (τ := ⟨[(10, .d (.imm 4 (lenc Offer.pd r1)))], [], [], none⟩) sc ?_
 obtain ⟨r2, hx_2, h⟩ := bind_some h
 refine cl (m_rate_Prices_ok 3 r1 _ hx_2) ?_
 iterate 5 refine oo ?_
 refine AOps.nil (k _ ?_)
 refine sg fun K k => ?_
 obtain ⟨r3, hx_3, h⟩ := bind_some h
 refine clRow 1000 (m_cocketlaw01_ring_ok _ hx_3) ?_
 refine AOps.sub (τ := ⟨[(1, .d (.imm 2 (lenc Ratio.pd r2.1))), (2, .d (.int .i64 r2.2)), (15, .d (.imm 4 (lenc Offer.pd r3)))], [], [], none⟩) sc ?_
 obtain ⟨r4, hx_4, h⟩ := bind_some h
 refine cl (m_rate_Best_ok 3 r3 0 2 _ hx_4) ?_
 iterate 8 refine oo ?_
 refine AOps.nil (k _ ?_)
 refine sg fun K k => ?_
 obtain ⟨r5, hx_5, h⟩ := bind_some h
 refine clRow 1001 (m_cocketlaw01_ring_ok _ hx_5) ?_
 refine oo ?_
 refine AOps.nil (k _ ?_)
 refine sg fun K k => ?_
 obtain ⟨e1, ⟨f_6, f_7, f_8, f_9⟩, h⟩ := idx_bind h
 try simp only [Int.reduceToNat] at f_8 f_9
 iterate 3 refine oo ?_
 refine oo ?_ (by intro K k; simp (disch := omega) only [go_sem, f_8, ↓reduceIte]; exact k)
 refine AOps.nil (k _ ?_)
 refine sg fun K k => ?_
 refine oo ?_
 refine AOps.sub (τ := ⟨[(1, .d (.imm 2 (lenc Ratio.pd r2.1))), (2, .d (.int .i64 r2.2)), (3, .ptr 1000 0 0), (4, .d (.imm 1 (lenc (PD.int .i64) r4.2.1))), (5, .d (.int .i64 r4.2.2)), (25, .d (.imm 4 (lenc Offer.pd (r5.set 2 (⟨e1.From, e1.To, e1.Num, 2⟩ : Offer)))))], [(1000, ⟨26, 2, [.d (.agg [(.int .i64 r4.1.Num), (.int .i64 r4.1.Den)])]⟩)], [], none⟩) sc ?_
 obtain ⟨r6, hx_10, h⟩ := bind_some h
 refine cl (m_rate_Round_ok 3 (r5.set 2 (⟨e1.From, e1.To, e1.Num, 2⟩ : Offer)) _ hx_10) ?_
 iterate 5 refine oo ?_
 refine AOps.nil (k _ ?_)
 refine sg fun K k => ?_
 iterate 3 refine oo ?_
 refine ct 4 [1, 3, 4, 5, 7, 8] [1000] (fun  t => (35, .d (.bool ((decide (r2.2 = 0)) && (decide ((r2.1.length : Int) = 3))))) :: t) ?_ ?_
 ·rcases bt (decide (r2.2 = 0)) with hg_12 | hg_12
  ·rw [hg_12]
   iterate 4 refine oo ?_
   refine AOps.nil ?_
   exact sb
  ·rw [hg_12]
   iterate 4 refine oo ?_
   refine AOps.nil ?_
   exact sb
 refine oo ?_
 obtain ⟨b1, hc_13, h⟩ := bind_some h
 refine ct 6 [3, 4, 5, 7, 8] [1000] (fun  t => (42, .d (.bool b1)) :: t) ?_ ?_
 ·rcases bt ((decide (r2.2 = 0)) && (decide ((r2.1.length : Int) = 3))) with hg_18 | hg_18
  ·rw [hg_18]
   rw [hg_18, cond_true] at hc_13
   obtain ⟨e2, ⟨f_14, f_15, f_16, f_17⟩, hc_13⟩ := idx_bind hc_13
   try simp only [Int.reduceToNat] at f_16 f_17
   iterate 2 refine oo ?_
   refine oo ?_ (by intro K k; simp (disch := omega) only [go_sem, f_16, ↓reduceIte]; exact k)
   refine oo ?_
   refine ox ?_ (by intro K k; simp (disch := omega) only [go_sem, fsl26, ↓reduceIte]; exact k)
   refine oo ?_
   refine AOps.nil ?_
   cases hc_13
   exact sb
  ·rw [hg_18]
   rw [hg_18, cond_false] at hc_13
   iterate 6 refine oo ?_
   refine AOps.nil ?_
   cases hc_13
   exact sb
 refine oo ?_
 refine ct 3 [3, 4, 7, 8] [1000] (fun  t => (46, .d (.bool (b1 && (decide (r4.2.2 = 0))))) :: t) ?_ ?_
 ·rcases bt b1 with hg_20 | hg_20
  ·rw [hg_20]
   iterate 3 refine oo ?_
   refine AOps.nil ?_
   exact sb
  ·rw [hg_20]
   iterate 3 refine oo ?_
   refine AOps.nil ?_
   exact sb
 refine oo ?_
 refine ct 4 [4, 7, 8] [] (fun  t => (51, .d (.bool ((b1 && (decide (r4.2.2 = 0))) && ((r4.1.Num == 3) && (r4.1.Den == 1))))) :: t) ?_ ?_
 ·rcases bt (b1 && (decide (r4.2.2 = 0))) with hg_22 | hg_22
  ·rw [hg_22]
   iterate 2 refine oo ?_
   refine ox ?_ (by intro K k; simp (disch := omega) only [go_sem, fsl26, ↓reduceIte]; exact k)
   refine oo ?_
   refine AOps.nil ?_
   exact sb
  ·rw [hg_22]
   iterate 4 refine oo ?_
   refine AOps.nil ?_
   exact sb
 refine oo ?_
 refine ct 4 [7, 8] [] (fun  t => (56, .d (.bool (((b1 && (decide (r4.2.2 = 0))) && ((r4.1.Num == 3) && (r4.1.Den == 1))) && (decide ((r4.2.1.length : Int) = 2))))) :: t) ?_ ?_
 ·rcases bt ((b1 && (decide (r4.2.2 = 0))) && ((r4.1.Num == 3) && (r4.1.Den == 1))) with hg_24 | hg_24
  ·rw [hg_24]
   iterate 4 refine oo ?_
   refine AOps.nil ?_
   exact sb
  ·rw [hg_24]
   iterate 4 refine oo ?_
   refine AOps.nil ?_
   exact sb
 refine oo ?_
 refine ct 3 [7] [] (fun  t => (60, .d (.bool ((((b1 && (decide (r4.2.2 = 0))) && ((r4.1.Num == 3) && (r4.1.Den == 1))) && (decide ((r4.2.1.length : Int) = 2))) && (decide (r6.2 = 0))))) :: t) ?_ ?_
 ·rcases bt (((b1 && (decide (r4.2.2 = 0))) && ((r4.1.Num == 3) && (r4.1.Den == 1))) && (decide ((r4.2.1.length : Int) = 2))) with hg_26 | hg_26
  ·rw [hg_26]
   iterate 3 refine oo ?_
   refine AOps.nil ?_
   exact sb
  ·rw [hg_26]
   iterate 3 refine oo ?_
   refine AOps.nil ?_
   exact sb
 refine oo ?_
 obtain ⟨b2, hc_27, h⟩ := bind_some h
 refine ct 4 [] [] (fun  t => (65, .d (.bool b2)) :: t) ?_ ?_
 ·rcases bt ((((b1 && (decide (r4.2.2 = 0))) && ((r4.1.Num == 3) && (r4.1.Den == 1))) && (decide ((r4.2.1.length : Int) = 2))) && (decide (r6.2 = 0))) with hg_29 | hg_29
  ·rw [hg_29]
   rw [hg_29, cond_true] at hc_27
   refine oo ?_
   refine ol ?_
   obtain ⟨r7, hx_28, hc_27⟩ := bind_some hc_27
   refine cl (m_cocketlaw01_same_ok r6.1 [0, 1, 2] _ hx_28) ?_
   refine oo ?_
   refine AOps.nil ?_
   cases hc_27
   exact sb
  ·rw [hg_29]
   rw [hg_29, cond_false] at hc_27
   iterate 4 refine oo ?_
   refine AOps.nil ?_
   cases hc_27
   exact sb
 refine oo ?_
 refine AOps.nil (k _ ?_)
 refine AWp.ret ?_
 cases h; exact rt
end Go.Pv.Tryd

namespace Go.Pv
section
variable {P : Program} {G : List (Nat × PD)} {ro : Option Nat} {N : Nat} {σ : St} {o : Oper} {K : St → Prop}
theorem hput_self : ∀ {H : Heap} {r : Nat} {x : Row}, hget H r = some x → hput H r x = H
  | [], _, _, h => by simp [hget] at h
  | (s, y) :: l, r, x, h => by
    simp only [hget] at h
    simp only [hput]
    split at h
    · rename_i e; simp only [Option.some.injEq] at h; subst h; rw [if_pos e, e]
    · rename_i e; rw [if_neg e, hput_self h]
theorem three {k n m : Nat} {cur news : List Value} (h1 : n * k ≤ cur.length) (h2 : news.length = m * k) (i j : Nat) (hj : j < k) :
    (cur.take (n * k) ++ news ++ cur.drop (n * k + news.length))[i * k + j]? = if i < n then cur[i * k + j]? else if i < n + m then news[(i - n) * k + j]? else cur[i * k + j]? := by
  have hl : (cur.take (n * k)).length = n * k := by simp; omega
  by_cases hi : i < n
  · rw [if_pos hi]
    have hm := Nat.mul_le_mul_right k (show i + 1 ≤ n from hi)
    rw [Nat.add_mul, Nat.one_mul] at hm
    rw [List.append_assoc, List.getElem?_append_left (by omega), List.getElem?_take, if_pos (by omega)]
  · rw [if_neg hi]
    have hge := Nat.mul_le_mul_right k (show n ≤ i by omega)
    by_cases hi2 : i < n + m
    · rw [if_pos hi2]
      have hm := Nat.mul_le_mul_right k (show i - n + 1 ≤ m by omega)
      rw [Nat.add_mul, Nat.one_mul] at hm
      have hsub : (i - n) * k = i * k - n * k := Nat.sub_mul _ _ _
      rw [List.append_assoc, List.getElem?_append_right (by omega), hl, List.getElem?_append_left (by omega)]
      congr 1; omega
    · rw [if_neg hi2]
      have hm := Nat.mul_le_mul_right k (show n + m ≤ i by omega)
      rw [Nat.add_mul] at hm
      rw [List.getElem?_append_right (by simp only [List.length_append, hl]; omega), List.getElem?_drop]
      congr 1
      simp only [List.length_append, hl]; omega
theorem Rep.over {B : Base P} {a : Act} {w : World} {φ : Nm} (hr : Rep G B N σ a w φ) {r b : Nat} {x : Row} (hx : hget σ.heap r = some x) (hb : φ r = some b) {cur : Array Value} (hc : w.heap[b]? = some (.cells cur x.e (0, 0))) {n : Nat} {L : List PV} {news : List Value}
    (hn : n + L.length ≤ x.els.length) (hl : news.length = L.length * x.k)
    (hL : ∀ i (hi : i < L.length), ∃ v, RepV w B.X φ σ.heap v L[i] ∧ v.cells.size = x.k ∧ ∀ j, j < x.k → news[i * x.k + j]? = some (v.cells.getD j undef) ∧ flat (v.cells.getD j undef) = true) :
    Rep G B N { σ with heap := hput σ.heap r { x with els := x.els.take n ++ L ++ x.els.drop (n + L.length) } } a (w.setRow b (cur.toList.take (n * x.k) ++ news ++ cur.toList.drop (n * x.k + news.length)).toArray) φ := by
  obtain ⟨c, C, h1, h2, h3⟩ := (hr.heap.rows r x b hx hb).here
  rw [hc] at h1; simp only [Option.some.injEq, Obj.cells.injEq, and_true] at h1; subst h1
  have hCm := Nat.mul_le_mul_right x.k (show n + L.length ≤ C by have := h2.2.1; omega)
  rw [Nat.add_mul] at hCm
  have hcl : cur.toList.length = C * x.k := by simpa using h2.1
  refine hr.write hx hb (by simp; omega) hc (setRow_heap w b cur _ x.e _ hc) (by simp; omega) ⟨rfl, rfl, rfl, by simp, fun y _ hy => setRow_other w b y _ hy⟩ (size_setRow _ _ _) fun i hi => ?_
  have hi' : i < x.els.length := by simp at hi; omega
  have hcell : ∀ j, j < x.k → (cur.toList.take (n * x.k) ++ news ++ cur.toList.drop (n * x.k + news.length)).toArray[i * x.k + j]? = if i < n then cur[i * x.k + j]? else if i < n + L.length then news[(i - n) * x.k + j]? else cur[i * x.k + j]? := fun j hj => by
    have := three (k := x.k) (n := n) (m := L.length) (cur := cur.toList) (news := news) (by omega) hl i j hj
    simpa using this
  by_cases hin : i < n
  · obtain ⟨v, h4, h5, h6⟩ := h3 i hi'
    refine ⟨v, ?_, h5, fun j hj => ⟨?_, (h6 j hj).2⟩⟩
    · have e : (x.els.take n ++ L ++ x.els.drop (n + L.length))[i] = x.els[i] := by
        rw [List.getElem_append_left (by simp; omega), List.getElem_append_left (by simp; omega)]; simp
      rw [e]; exact h4
    · rw [hcell j hj, if_pos hin]; exact (h6 j hj).1
  · by_cases hin2 : i < n + L.length
    · obtain ⟨v, h4, h5, h6⟩ := hL (i - n) (by omega)
      refine ⟨v, ?_, h5, fun j hj => ⟨?_, (h6 j hj).2⟩⟩
      · have e : (x.els.take n ++ L ++ x.els.drop (n + L.length))[i] = L[i - n]'(by omega) := by
          rw [List.getElem_append_left (by simp; omega), List.getElem_append_right (by simp; omega)]
          congr 1; simp; omega
        rw [e]; exact h4
      · rw [hcell j hj, if_neg hin, if_pos hin2]; exact (h6 j hj).1
    · obtain ⟨v, h4, h5, h6⟩ := h3 i hi'
      refine ⟨v, ?_, h5, fun j hj => ⟨?_, (h6 j hj).2⟩⟩
      · have e : (x.els.take n ++ L ++ x.els.drop (n + L.length))[i] = x.els[i] := by
          rw [List.getElem_append_right (by simp; omega), List.getElem_drop]
          congr 1; simp; omega
        rw [e]; exact h4
      · rw [hcell j hj, if_neg hin, if_neg hin2]; exact (h6 j hj).1
theorem OpT.appendIn {s x : Operand} {t e : TypeId} {y z : Ty} {r n : Nat} {row : Row} {L : List PV} (ho : o.op = .call { callee := .builtin .append, args := #[s, x], argTypes := #[t, t] })
    (ht : tyOf P t = some y) (hde : y.desc = .slice e) (he : tyOf P e = some z) (hk : 1 ≤ z.size)
    (hs : σ.eval s = .slc r 0 n) (hx : hget σ.heap r = some row) (hre : row.e = e) (hrk : row.k = z.size)
    (hsrc : srcV z.size σ.heap (σ.eval x) = some L) (hle : n + L.length ≤ row.els.length) (hd : dstOk N o.dst)
    (hK : K (({ σ with heap := hput σ.heap r { row with els := row.els.take n ++ L ++ row.els.drop (n + L.length) } } : St).put o.dst (.slc r 0 (n + L.length)))) : OpT P G ro N o σ K := by
  intro B hro a w φ hr next Q hnx
  have hsv := hr.eval s
  rw [hs] at hsv
  have hxv := srcV_ok hr hsrc (hr.eval x)
  have hop : ∀ v' w', (Builtin.append_ #[t, t] o.type #[a.eval s, a.eval x]).run P w = .ok v' w' → (o.semAt ro a.eval).run P w = .ok (.value v') w' := by
    intro v' w' h
    rw [Oper.semAt_eq _ _ _ (fun c hc => by rw [ho] at hc; cases hc)]
    simp only [execOp, ho, resolve, invoke, builtin, Sem.run_bind, Sem.run_pure, Result.andThen_ok, List.map_toArray, List.map_cons, List.map_nil, h]
  obtain ⟨hu, it, hit, hs1, hs2, hs3⟩ := tyOf_parts he
  have hut : P.underlying t = some (.slice e) := by rw [(tyOf_parts ht).1, hde]
  by_cases hL : L = []
  · subst hL
    have hself : hput σ.heap r { row with els := row.els.take n ++ [] ++ row.els.drop (n + ([] : List PV).length) } = σ.heap := by
      have : row.els.take n ++ [] ++ row.els.drop (n + ([] : List PV).length) = row.els := by simp
      rw [this]; exact hput_self hx
    rw [hself] at hK
    have hrun : (Builtin.append_ #[t, t] o.type #[a.eval s, a.eval x]).run P w = .ok (a.eval s) w := by
      have hc : ∃ b cap, a.eval s = .slice b n cap ∧ n ≤ cap := by
        rcases repV_slc hsv with ⟨⟨p0, h1, _⟩, _, h2, _⟩ | ⟨_, _, cap, h1, _, _, _, h2, _⟩
        · exact ⟨p0, 0, by rw [h1, h2], by omega⟩
        · exact ⟨_, cap, h1, h2⟩
      obtain ⟨b, cap, hc1, hc2⟩ := hc
      have hx0 : ∃ p c, a.eval x = .slice p 0 c := by
        rcases hxv with ⟨⟨p, h⟩, _⟩ | ⟨p, c, h, _⟩
        · exact ⟨p, 0, h⟩
        · exact ⟨some p, c, h⟩
      obtain ⟨p, c, hx0⟩ := hx0
      rw [hc1, hx0]
      cases b <;> cases p <;> simp [Builtin.append_, run_underlying hut, sizeOf, typeInfo, hit, Builtin.lenOf, Builtin.firstCells, loadCells, loadCellsFrom, storeCells, hc2]
    exact wpIn_value (hop _ _ hrun) (hnx _ _ _ φ hK (hr.put hd hsv))
  · have hm : 1 ≤ L.length := List.length_pos_iff.2 hL
    rcases hxv with ⟨_, h⟩ | ⟨p, c, hxe, hrow⟩
    · exact absurd h hL
    obtain ⟨news, hnw⟩ : ∃ news, news = (List.range (L.length * z.size)).map fun q => (w.cell? (p.add q)).getD undef := ⟨_, rfl⟩
    have hnl : news.length = L.length * z.size := by rw [hnw]; simp
    have hdiv : ∀ q, q < L.length * z.size → ∃ i j, i < L.length ∧ j < z.size ∧ q = i * z.size + j := fun q hq => ⟨q / z.size, q % z.size, Nat.div_lt_of_lt_mul (by rw [Nat.mul_comm]; exact hq), Nat.mod_lt _ hk, by rw [Nat.mul_comm]; exact (Nat.div_add_mod q z.size).symm⟩
    have hcell : ∀ q, q < L.length * z.size → ∃ u, w.cell? (p.add q) = some u ∧ flat u = true := fun q hq => by
      obtain ⟨i, j, hi, hj, rfl⟩ := hdiv q hq
      obtain ⟨v, _, _, h3⟩ := hrow i hi
      exact ⟨_, (h3 j hj).1, (h3 j hj).2⟩
    have hng : ∀ q, q < L.length * z.size → news[q]? = w.cell? (p.add q) := fun q hq => by
      obtain ⟨u, hu, _⟩ := hcell q hq
      rw [hnw]; simp [hq, hu]
    have hne : ∀ j u, news[j]? = some u → w.cell? (p.add j) = some u := fun j u hj => by
      have hlt : j < L.length * z.size := by rw [← hnl]; exact (List.getElem?_eq_some_iff.1 hj).1
      rw [← hng j hlt]; exact hj
    have hnf : ∀ u ∈ news, flat u = true := fun u hu => by
      obtain ⟨j, hj, rfl⟩ := List.getElem_of_mem hu
      obtain ⟨u', h1, h2⟩ := hcell j (hnl ▸ hj)
      have := hng j (hnl ▸ hj)
      rw [List.getElem?_eq_getElem hj, h1] at this
      simp only [Option.some.injEq] at this
      rw [this]; exact h2
    rcases repV_slc hsv with ⟨_, _, h4, h5, _⟩ | ⟨x2, b, cap, h3, hx2, hb, hn, hc, hl, hzz⟩
    · have := hr.heap.void r row hx h5
      rw [this] at hle; simp at hle; exact absurd hle.2 hL
    · rw [hx] at hx2; simp only [Option.some.injEq] at hx2; subst hx2
      obtain ⟨cur, C, h1, h2, h3'⟩ := (hr.heap.rows r row b hx hb).here
      have hsz := hzz _ _ _ h1
      rw [Nat.zero_add] at hsz hl
      have hfit : n * it.size + news.length ≤ cur.size := by
        rw [hnl, hs1, ← Nat.add_mul, hsz, hrk]; exact Nat.mul_le_mul_right _ (by omega)
      have hrun := run_append_room (P := P) w t o.type e it hut hit b n cap cur (by rw [← hre]; exact h1) p L.length c news (by rw [hs1]; exact hnl) hne hnf (by omega) hfit
      have hrep := hr.over hx hb h1 hle (by rw [hrk]; exact hnl) (fun i hi => by
        obtain ⟨v, h4, h5, h6⟩ := hrow i hi
        refine ⟨v, h4, by rw [hrk]; exact h5, fun j hj => ?_⟩
        rw [hrk] at hj ⊢
        have hm2 := Nat.mul_le_mul_right z.size (show i + 1 ≤ L.length from hi)
        rw [Nat.add_mul, Nat.one_mul] at hm2
        rw [hng (i * z.size + j) (by omega)]
        exact h6 j hj)
      have e0 : a.eval s = .slice (some ⟨b, 0, none⟩) n cap := by rw [h3, Nat.zero_mul]
      rw [← e0, ← hxe, hs1, ← hrk] at hrun
      refine wpIn_value (hop _ _ hrun) (hnx _ _ _ φ hK (hrep.put hd ?_))
      have hlen : (row.els.take n ++ L ++ row.els.drop (n + L.length)).length = row.els.length := by simp; omega
      have := RepV.slc (w := w.setRow b (cur.toList.take (n * row.k) ++ news ++ cur.toList.drop (n * row.k + news.length)).toArray) (X := B.X) (φ := φ) (H := hput σ.heap r { row with els := row.els.take n ++ L ++ row.els.drop (n + L.length) }) (r := r) (lo := 0) (n := n + L.length) (cap := cap) (b := b)
        (x := { row with els := row.els.take n ++ L ++ row.els.drop (n + L.length) }) (by rw [hget_hput, if_pos rfl]) hb (by dsimp only; omega) (by omega) (by dsimp only; omega) (fun c0 e1 f0 hh => by
          rw [setRow_heap w b cur _ row.e _ h1] at hh
          simp only [Option.some.injEq, Obj.cells.injEq] at hh
          rw [← hh.1, Nat.zero_add]
          dsimp only
          have hfit' : n * row.k + news.length ≤ cur.size := by rw [hrk, ← hs1]; exact hfit
          simp only [List.size_toArray, List.length_append, List.length_take, List.length_drop, Array.length_toList]
          omega)
      rw [Nat.zero_mul] at this
      exact this
theorem OpT.clear {s : Operand} {t e : TypeId} {y z : Ty} {zv : Value} {zp : PV} {r lo n : Nat} {row : Row} (ho : o.op = .call { callee := .builtin .clear, args := #[s], argTypes := #[t] })
    (ht : tyOf P t = some y) (hde : y.desc = .slice e) (he : tyOf P e = some z) (hz : z.zero = some zv) (hzp : ofZero zv = some zp) (hzs : zv.cells.size = z.size) (hk : 1 ≤ z.size)
    (hs : σ.eval s = .slc r lo n) (hx : hget σ.heap r = some row) (hrk : row.k = z.size) (hdst : o.dst = none)
    (hK : K { σ with heap := hput σ.heap r { row with els := row.els.take lo ++ List.replicate n zp ++ row.els.drop (lo + n) } }) : OpT P G ro N o σ K := by
  intro B hro a w φ hr next Q hnx
  have hsv := hr.eval s
  rw [hs] at hsv
  obtain ⟨hu, it, hit, hs1, hs2, hs3⟩ := tyOf_parts he
  have hut : P.underlying t = some (.slice e) := by rw [(tyOf_parts ht).1, hde]
  have hop : ∀ v' w', (Builtin.clear_ #[t] o.type #[a.eval s]).run P w = .ok v' w' → (o.semAt ro a.eval).run P w = .ok (.value v') w' := by
    intro v' w' h
    rw [Oper.semAt_eq _ _ _ (fun c hc => by rw [ho] at hc; cases hc)]
    simp only [execOp, ho, resolve, invoke, builtin, Sem.run_bind, Sem.run_pure, Result.andThen_ok, List.map_toArray, List.map_cons, List.map_nil, h]
  have hput0 : ∀ {τ : St} {w' : World} {u : Value}, Rep G B N τ a w' φ → Rep G B N τ (a.put o.dst u) w' φ := fun h => by rw [hdst]; exact h
  by_cases hn0 : n = 0
  · subst hn0
    have hself : hput σ.heap r { row with els := row.els.take lo ++ List.replicate 0 zp ++ row.els.drop (lo + 0) } = σ.heap := by
      have : row.els.take lo ++ List.replicate 0 zp ++ row.els.drop (lo + 0) = row.els := by simp
      rw [this]; exact hput_self hx
    rw [hself] at hK
    have hrun : (Builtin.clear_ #[t] o.type #[a.eval s]).run P w = .ok (.tuple #[]) w := by
      rcases repV_slc hsv with ⟨⟨p0, h1, _⟩, _⟩ | ⟨_, _, cap, h1, _⟩
      · rw [h1]; cases p0 <;> simp [Builtin.clear_, run_underlying hut]
      · rw [h1]; simp [Builtin.clear_, run_underlying hut]
    exact wpIn_value (hop _ _ hrun) (hnx _ _ _ φ hK (hput0 hr))
  · rcases repV_slc hsv with ⟨_, _, h4, _⟩ | ⟨x2, b, cap, h3, hx2, hb, hn, hc, hl, hzz⟩
    · exact absurd h4 hn0
    · rw [hx] at hx2; simp only [Option.some.injEq] at hx2; subst hx2
      obtain ⟨cur, C, h1, h2, h3'⟩ := (hr.heap.rows r row b hx hb).here
      have hsz := hzz _ _ _ h1
      obtain ⟨hz1, hz2⟩ := ofZero_ok (w := w) (X := B.X) (φ := φ) (H := σ.heap) hzp
      obtain ⟨news, hnw⟩ : ∃ news, news = (madeCells zv.cells (n * z.size)).toList := ⟨_, rfl⟩
      have hnl : news.length = n * z.size := by rw [hnw]; simp [size_madeCells]
      have hng : ∀ i j, i < n → j < z.size → news[i * z.size + j]? = some (zv.cells.getD j undef) := fun i j hi hj => by
        rw [hnw]
        have := madeCells_get (z := zv.cells) (k := z.size) (n := n) (i := i) (j := j) hzs hj hi
        simpa using this
      have hnf : ∀ u ∈ news, u.oneCell' = true := fun u hu => by
        obtain ⟨q, hq, rfl⟩ := List.getElem_of_mem hu
        have hq' : q < n * z.size := hnl ▸ hq
        have e1 := hng (q / z.size) (q % z.size) (Nat.div_lt_of_lt_mul (by rw [Nat.mul_comm]; exact hq')) (Nat.mod_lt _ hk)
        rw [show q / z.size * z.size + q % z.size = q by rw [Nat.mul_comm]; exact Nat.div_add_mod q z.size, List.getElem?_eq_getElem hq, Option.some.injEq] at e1
        rw [e1]; exact hz2 _ (by rw [hzs]; exact Nat.mod_lt _ hk)
      have hzc : (Builtin.zeroCells zv.cells n).toList = news := by
        rw [hnw]; simp [Builtin.zeroCells, madeCells, hzs]
      have hfit : lo * row.k + news.length ≤ cur.size := by
        rw [hnl, hrk, ← Nat.add_mul, hsz, hrk]; exact Nat.mul_le_mul_right _ (by omega)
      have hst := run_storeCells_at P b (lo * row.k) row.e news 0 cur w h1 (by simpa using hfit) hnf
      simp only [Nat.add_zero] at hst
      have hrun : (Builtin.clear_ #[t] o.type #[a.eval s]).run P w = .ok (.tuple #[]) (w.setRow b (cur.toList.take (lo * row.k) ++ news ++ cur.toList.drop (lo * row.k + news.length)).toArray) := by
        obtain ⟨m, rfl⟩ : ∃ m, n = m + 1 := ⟨n - 1, by omega⟩
        rw [h3]
        have hzr := run_tyZero he hz
        simp [Builtin.clear_, run_underlying hut, hzr, hzc, hst]
      have hrep := hr.over hx hb h1 (n := lo) (L := List.replicate n zp) (news := news) (by simpa using hn) (by rw [hrk]; simpa using hnl) (fun i hi => by
        have hi' : i < n := by simpa using hi
        refine ⟨zv, by simpa using hz1, by rw [hrk]; exact hzs, fun j hj => ?_⟩
        rw [hrk] at hj ⊢
        exact ⟨hng i j hi' hj, hz2 j (by rw [hzs]; exact hj)⟩)
      rw [List.length_replicate] at hrep
      exact wpIn_value (hop _ _ hrun) (hnx _ _ _ φ hK (hput0 hrep))
theorem nil_test {P : Program} {w : World} {X : Nat → Prop} {φ : Nm} {H : Heap} {t e : TypeId} {y : Ty} {k : Nat} {els : List PD} {v : Value} (ht : tyOf P t = some y) (hde : y.desc = .slice e) (hv : RepV w X φ H v (.d (.imm k els))) (x z : Operand) :
    ∃ b, (do eqGuard .eql t x z v (.slice none 0 0); Go.binOp .eql t v (.slice none 0 0) : Sem Value).run P w = .ok (.bool b) w ∧ (b = true → els = []) := by
  have heq : ∀ u b, (∀ d, (Op.equalIn (d + 1) t u (.slice none 0 0)).run P w = .ok b w) → (Op.equal t u (.slice none 0 0)).run P w = .ok b w := fun u b h => h 9999
  have hb : ∃ b, (Op.equal t v (.slice none 0 0)).run P w = .ok b w ∧ (b = true → els = []) := by
    cases hv with | d hv =>
    cases hv with
    | imm0 =>
      refine ⟨true, heq _ _ fun d => ?_, fun _ => rfl⟩
      unfold Op.equalIn
      rw [Sem.run_bind, run_tyUnder ht, hde]; rfl
    | imm =>
      refine ⟨false, heq _ _ fun d => ?_, fun h => by cases h⟩
      unfold Op.equalIn
      rw [Sem.run_bind, run_tyUnder ht, hde]; rfl
  obtain ⟨b, h1, h2⟩ := hb
  refine ⟨b, ?_, h2⟩
  have hg : (eqGuard .eql t x z v (.slice none 0 0)).run P w = .ok () w := by
    refine eqGuard_none (.inr (by simp)) (.inr (by simp))
  have h3 : Go.binOp .eql t v (.slice none 0 0) = (do Pure.pure (.bool (← Op.equal t v (.slice none 0 0))) : Sem Value) := by
    cases hv with | d hv => cases hv <;> rfl
  rw [Sem.run_bind, hg, h3]
  simp only [Result.andThen]
  rw [Sem.run_bind, h1]; rfl
theorem OpT.nilTest {x : Operand} {t t' e : TypeId} {y : Ty} {k : Nat} {els : List PD} (ho : o.op = .binOp .eql t x (.const (.slice none 0 0)) t') (ht : tyOf P t = some y) (hde : y.desc = .slice e) (hx : σ.eval x = .d (.imm k els)) (hd : dstOk N o.dst)
    (h1 : els = [] → K (σ.put o.dst (.d (.bool true)))) (h2 : K (σ.put o.dst (.d (.bool false)))) : OpT P G ro N o σ K := by
  intro B hro a w φ hr next Q hnx
  have hv := hr.eval x
  rw [hx] at hv
  obtain ⟨b, h3, h4⟩ := nil_test ht hde hv x (.const (.slice none 0 0))
  have hop : (o.semAt ro a.eval).run P w = .ok (.value (.bool b)) w := by
    rw [Oper.semAt_eq _ _ _ (fun c hc => by rw [ho] at hc; cases hc)]
    simp only [execOp, ho]
    exact run_v h3
  refine wpIn_value hop (hnx _ _ _ φ ?_ (hr.put hd (.d (.bool b))))
  cases b with
  | true => exact h1 (h4 rfl)
  | false => exact h2
theorem run_bound {P : Program} {w : World} {k : IntKind} {n : Int} {y : Nat} (h0 : 0 ≤ n) (h1 : n ≤ y) (c : BoundsCode) : (Instr.sliceBound (.int k n) y c).run P w = .ok n.toNat w := by
  simp [Instr.sliceBound, asIntOf, h0, h1]
theorem OpT.slice3 {x lo hi mx : Operand} {t e : TypeId} {y z : Ty} {r l0 n : Nat} {k1 k2 k3 : IntKind} {a1 b1 c1 : Int} (ho : o.op = .slice t x (some lo) (some hi) (some mx)) (ht : tyOf P t = some y) (hde : y.desc = .slice e) (he : tyOf P e = some z)
    (hx : σ.eval x = .slc r l0 n) (h1 : σ.eval lo = .d (.int k1 a1)) (h2 : σ.eval hi = .d (.int k2 b1)) (h3 : σ.eval mx = .d (.int k3 c1)) (h4 : 0 ≤ a1) (h5 : a1 ≤ b1) (h6 : b1 ≤ c1) (h7 : c1 ≤ n) (hd : dstOk N o.dst) (hK : K (σ.put o.dst .any)) : OpT P G ro N o σ K := by
  intro B hro a w φ hr next Q hnx
  have hv := hr.eval x
  rw [hx] at hv
  have v1 := hr.eval lo; rw [h1] at v1
  have v2 := hr.eval hi; rw [h2] at v2
  have v3 := hr.eval mx; rw [h3] at v3
  have hs : ∃ p cap, a.eval x = .slice p n cap ∧ n ≤ cap := by
    rcases repV_slc hv with ⟨⟨p, e1, _⟩, _, e2, _⟩ | ⟨_, _, cap, e1, _, _, _, e2, _⟩
    · exact ⟨p, 0, by rw [e1, e2], by omega⟩
    · exact ⟨_, cap, e1, e2⟩
  obtain ⟨p, cap, e1, e2⟩ := hs
  have hrun : ∃ u, (Instr.sliceAt t (a.eval x) (some (a.eval lo)) (some (a.eval hi)) (some (a.eval mx))).run P w = .ok u w := by
    rw [e1, repV_int v1, repV_int v2, repV_int v3]
    refine ⟨.slice (if c1.toNat = a1.toNat then p else p.map (·.add (a1.toNat * z.size))) (b1.toNat - a1.toNat) (c1.toNat - a1.toNat), by
      simp only [Instr.sliceAt, Sem.run_bind, run_tyUnder ht, Result.andThen, hde, Instr.slice, Instr.sliceBounds, Option.isSome_some, if_true, run_bound (k := k3) (n := c1) (y := cap) (by omega) (by omega), run_bound (k := k2) (n := b1) (y := c1.toNat) (by omega) (by omega), run_bound (k := k1) (n := a1) (y := b1.toNat) (by omega) (by omega), Sem.run_pure, run_tySize he]⟩
  obtain ⟨u, hu⟩ := hrun
  refine wpIn_value (u := u) ?_ (hnx _ _ _ φ hK (hr.put hd (.any u)))
  rw [Oper.semAt_eq _ _ _ (fun c hc => by rw [ho] at hc; cases hc)]
  simp only [execOp, ho, Option.map_some]
  exact run_v hu
theorem OpT.sliceIn {x lo hi : Operand} {t e : TypeId} {y z : Ty} {r n : Nat} {row : Row} {k1 k2 : IntKind} {a1 b1 : Nat} (ho : o.op = .slice t x (some lo) (some hi) none) (ht : tyOf P t = some y) (hde : y.desc = .slice e) (he : tyOf P e = some z)
    (hx : σ.eval x = .slc r 0 n) (hrow : hget σ.heap r = some row) (hrk : row.k = z.size) (h1 : σ.eval lo = .d (.int k1 a1)) (h2 : σ.eval hi = .d (.int k2 b1)) (h5 : a1 ≤ b1) (h6 : b1 ≤ row.els.length) (h7 : a1 < row.els.length) (hd : dstOk N o.dst)
    (hK : K (σ.put o.dst (.slc r a1 (b1 - a1)))) : OpT P G ro N o σ K := by
  intro B hro a w φ hr next Q hnx
  have hv := hr.eval x
  rw [hx] at hv
  have v1 := hr.eval lo; rw [h1] at v1
  have v2 := hr.eval hi; rw [h2] at v2
  rcases repV_slc hv with ⟨_, _, _, e3, _⟩ | ⟨x2, b, cap, e1, e2, e3, e4, e5, e6, e7⟩
  · have := hr.heap.void r row hrow e3
    rw [this] at h7; simp at h7
  · rw [hrow] at e2; simp only [Option.some.injEq] at e2; subst e2
    rw [Nat.zero_add] at e6
    have hrun : (Instr.sliceAt t (a.eval x) (some (a.eval lo)) (some (a.eval hi)) none).run P w = .ok (.slice (some ⟨b, a1 * row.k, none⟩) (b1 - a1) (cap - a1)) w := by
      rw [e1, repV_int v1, repV_int v2]
      simp only [Instr.sliceAt, Sem.run_bind, run_tyUnder ht, Result.andThen, hde, Instr.slice, Instr.sliceBounds, Option.isSome_none, if_true, run_bound (k := k2) (n := (b1 : Int)) (y := cap) (by omega) (by omega), run_bound (k := k1) (n := (a1 : Int)) (y := b1) (by omega) (by omega), Sem.run_pure, run_tySize he, Int.toNat_natCast, Bool.false_eq_true, if_false]
      rw [if_neg (by omega), Option.map_some, add_eq, Nat.zero_mul, Nat.zero_add, hrk]
    refine wpIn_value (u := .slice (some ⟨b, a1 * row.k, none⟩) (b1 - a1) (cap - a1)) ?_ (hnx _ _ _ φ hK (hr.put hd (.slc hrow e3 (by omega) (by omega) (by omega) fun c e f hh => ?_)))
    · rw [Oper.semAt_eq _ _ _ (fun c hc => by rw [ho] at hc; cases hc)]
      simp only [execOp, ho, Option.map_some, Option.map_none]
      exact run_v hrun
    · rw [e7 c e f hh]; congr 1; omega
theorem OpT.sliceEnd {x lo : Operand} {t e : TypeId} {y z : Ty} {r l0 n : Nat} {k1 : IntKind} (ho : o.op = .slice t x (some lo) none none) (ht : tyOf P t = some y) (hde : y.desc = .slice e) (he : tyOf P e = some z)
    (hx : σ.eval x = .slc r l0 n) (h1 : σ.eval lo = .d (.int k1 n)) (hd : dstOk N o.dst) (k : Nat) (hK : K (σ.put o.dst (.d (.imm k [])))) : OpT P G ro N o σ K := by
  intro B hro a w φ hr next Q hnx
  have hv := hr.eval x
  rw [hx] at hv
  have v1 := hr.eval lo; rw [h1] at v1
  have hs : ∃ p cap, a.eval x = .slice p n cap ∧ n ≤ cap ∧ (p = none → n = 0 ∧ cap = 0) ∧ ∀ q, p = some q → q.spot = none := by
    rcases repV_slc hv with ⟨⟨p, e1, e3⟩, _, e2, _⟩ | ⟨_, b, cap, e1, _, _, _, e2, _⟩
    · exact ⟨p, 0, by rw [e1, e2], by omega, fun _ => ⟨e2, rfl⟩, e3⟩
    · exact ⟨_, cap, e1, e2, (by intro h; cases h), (by intro q hq; cases hq; rfl)⟩
  obtain ⟨p, cap, e1, e2, e3, e4⟩ := hs
  have hrun : (Instr.sliceAt t (a.eval x) (some (a.eval lo)) none none).run P w = .ok (.slice (if cap = n then p else p.map (·.add (n * z.size))) 0 (cap - n)) w := by
    rw [e1, repV_int v1]
    simp only [Instr.sliceAt, Sem.run_bind, run_tyUnder ht, Result.andThen, hde, Instr.slice, Instr.sliceBounds, Option.isSome_none, run_bound (k := k1) (n := (n : Int)) (y := n) (by omega) (by omega), Sem.run_pure, run_tySize he, Int.toNat_natCast, Bool.false_eq_true, if_false, Nat.sub_self]
  refine wpIn_value (u := .slice (if cap = n then p else p.map (·.add (n * z.size))) 0 (cap - n)) ?_ (hnx _ _ _ φ hK (hr.put hd (.d ?_)))
  · rw [Oper.semAt_eq _ _ _ (fun c hc => by rw [ho] at hc; cases hc)]
    simp only [execOp, ho, Option.map_some, Option.map_none]
    exact run_v hrun
  · cases p with
    | none =>
      obtain ⟨h8, h9⟩ := e3 rfl
      subst h8 h9
      simp only [Option.map_none, ite_self, Nat.sub_self]
      exact .imm0 k
    | some q =>
      obtain ⟨qb, qo, qs⟩ := q
      have := e4 _ rfl
      dsimp only at this
      subst this
      rw [Option.map_some, add_eq]
      split
      · exact .imm (fun _ => undef) rfl (fun h => absurd rfl h) rfl (by omega) (fun i hi => by simp at hi) (fun i hi => by simp at hi) (fun i hi => by simp at hi) (fun i hi => by simp at hi)
      · exact .imm (fun _ => undef) rfl (fun h => absurd rfl h) rfl (by omega) (fun i hi => by simp at hi) (fun i hi => by simp at hi) (fun i hi => by simp at hi) (fun i hi => by simp at hi)
theorem OpX.sliceEnd {xs : Exc} {K : Foot → St → Prop} {x lo : Operand} {t e : TypeId} {y z : Ty} {r l0 n : Nat} {k1 : IntKind} (ho : o.op = .slice t x (some lo) none none) (ht : tyOf P t = some y) (hde : y.desc = .slice e) (he : tyOf P e = some z)
    (hx : σ.eval x = .slc r l0 n) (h1 : σ.eval lo = .d (.int k1 n)) (hd : dstOk N o.dst) (k : Nat) (hxs : exE xs (dstEff o.dst (.d (.imm k [])))) (hK : K (some (tmpKeys (opnds o.op) ++ rowKeys σ (opnds o.op), dstKeys o.dst)) (σ.put o.dst (.d (.imm k [])))) : OpX P G ro N xs o σ K := by
  refine ⟨some (tmpKeys (opnds o.op) ++ rowKeys σ (opnds o.op), dstKeys o.dst), σ.put o.dst (.d (.imm k [])), ⟨dstEff o.dst (.d (.imm k [])), fun k hk => by rw [ekeys_dst] at hk; exact hk, hxs, fun σ' hd' hs _ => ?_, look_put _ _ _, St.put_rest _ _ _⟩, hK⟩
  have ha := eval_agree (σ := σ) (σ' := σ') (l := opnds o.op) fun k hk => hs k (List.mem_append_left _ hk)
  rw [ho] at ha
  have m1 : x ∈ opnds (.slice t x (some lo) none none) := by simp [opnds, optOp]
  have m2 : lo ∈ opnds (.slice t x (some lo) none none) := by simp [opnds, optOp]
  exact OpT.sliceEnd ho ht hde he (by rw [ha _ m1]; exact hx) (by rw [ha _ m2]; exact h1) hd k ⟨by rw [St.put_rest]; exact hd', look_put _ _ _⟩
variable {ops : Array Oper} {rest : List Oper} {σ' : St}
theorem nt {x : Operand} {t t' e : TypeId} {y : Ty} {k : Nat} {els : List PD} {Q : St → Prop} (ht : tyOf P t = some y) (hde : y.desc = .slice e) (h1 : els = [] → AOps P G ro N ops rest (σ.put o.dst (.d (.bool true))) Q) (h2 : AOps P G ro N ops rest (σ.put o.dst (.d (.bool false))) Q)
    (hd : dstOk N o.dst := by (simp only [go_sem, ↓reduceIte]; done)) (hg : ∀ {K : St → Prop}, OpT P G ro N o σ K → vcOpC P G ro N (dsts ops) o σ K := by (intro K k; simp (disch := omega) only [go_sem, ↓reduceIte]; exact k))
    (ho : o.op = .binOp .eql t x (.const (.slice none 0 0)) t' := by rfl) (hx : σ.eval x = .d (.imm k els) := by rfl) : AOps P G ro N ops (o :: rest) σ Q :=
  AOps.consC hd fun _ hK => hg (OpT.nilTest ho ht hde hx hd (fun he => hK _ (h1 he)) (hK _ h2))
theorem on {Q : St → Prop} (h : ∀ K : St → Prop, (∀ σ, AOps P G ro N ops rest σ Q → K σ) → OpT P G ro N o σ K) (hd : dstOk N o.dst := by (simp only [go_sem, ↓reduceIte]; done))
    (hg : ∀ {K : St → Prop}, OpT P G ro N o σ K → vcOpC P G ro N (dsts ops) o σ K := by (intro K k; simp (disch := omega) only [go_sem, ↓reduceIte]; exact k)) : AOps P G ro N ops (o :: rest) σ Q :=
  AOps.consC hd fun K hK => hg (h K hK)
theorem dn {xs : Exc} {acc : List Foot} {Q : St → Prop} (hg : o.guard = none) (h : ∀ K : Foot → St → Prop, (∀ f σ1, DOps P G ro N xs ops Q rest (acc ++ [f]) σ1 → K f σ1) → OpX P G ro N xs o σ K) : DOps P G ro N xs ops Q (o :: rest) acc σ :=
  DOps.consC fun K hK => by unfold dgStep; rw [hg]; exact h K hK
theorem HandFn.pf {f : FuncId} {fn : Func} {c : Code} {args : List PV} {n : Nat} {e0 : List (Nat × PV)} {i e k : Nat} {l l' : List PD} {res : PV} (hf : P.funcs[f]? = some fn) (hn : fn.ntmps = n) (hl : l'.length = l.length)
    (h : AWp P G none n c ⟨e0, [(i, ⟨e, k, dl l⟩)], [], none⟩ (Fin P G fn fun p K => p = res ∧ K = [(i, ⟨e, k, dl l'⟩)])) (hb : fn.body = some c := by rfl) (hN : args.length ≤ n := by simp)
    (he : argEnv 0 args = e0 := by (simp only [argEnv, Nat.reduceAdd, Nat.zero_add]; rfl)) : HandFn P G f args i e k l res l' := by
  subst hn he
  intro B φ vs h0 h1 h2 h3
  refine (Fn.intro hf hb hN h B φ vs h0 h1 h2 h3).mono ?_
  rintro e' w' ⟨v, p, H', g', φ', he, ⟨rfl, rfl⟩, hv, hs⟩
  exact ⟨v, _, _, g', φ', he, ⟨rfl, rfl, hl⟩, hv, hs⟩
theorem rtHand {fn : Func} {p res : PV} {i e k : Nat} {l : List PD} (hp : resV P G fn.results.toList σ = some p := by (simp only [go_sem, ↓reduceIte]; rfl)) (hpr : p = res) (hh : σ.heap = [(i, ⟨e, k, dl l⟩)]) (hd : σ.dfr = [] := by first | exact True.intro | rfl) :
    Fin P G fn (fun p K => p = res ∧ K = [(i, ⟨e, k, dl l⟩)]) .ret σ := ⟨p, hp, hd, hpr, hh⟩
theorem frz_take {α : Type} {H : Heap} {r e k n : Nat} {f : α → PD} {L : List α} (h : hget H r = some ⟨e, k, dl (lenc f L)⟩) : frzT H (.slc r 0 n) = some (.d (.imm k (lenc f (L.take n)))) := by
  simp only [frzT, frz, h, dl_allD, Option.map_some, List.drop_zero, lenc_take]
variable {τ : St}
theorem sct (h2 : heapLe τ.heap σ.heap := by (repeat' (first | exact trivial | exact rfl | apply And.intro))) (h1 : envCv σ.heap τ.heap σ.env τ.env := by (repeat' (first | exact trivial | exact .inr ⟨_, frz_take rfl, leV_refl _, rows_slc rfl⟩ | exact .inl ⟨leV_refl _, by first | exact trivial | exact rfl | (simp only [go_sem, ↓reduceIte]; done)⟩ | exact .inl ⟨le_nil _ _, trivial⟩ | exact .inr ⟨_, frz_row rfl (by first | rfl | (simp only [List.length_append, List.length_set, List.length_replicate, List.length_cons, List.length_nil, Nat.zero_add]; done)), leV_refl _, rows_slc rfl⟩ | exact .inl ⟨slcle (by simp only [List.length_append, List.length_set, List.length_replicate, List.length_cons, List.length_nil, Nat.zero_add]; done), rfl⟩ | exact .inl ⟨by (simp only [leV]; exact lstD_le _ _), trivial⟩ | exact .inl ⟨by (simp only [go_sem, leV, leD, leDL, lenc_nil, leD_refl, leDL_refl, lstD_le, ↓reduceIte]; done), trivial⟩ |
      exact .inr ⟨_, by (simp only [go_sem, List.take_length, List.length_append, List.length_set, List.length_replicate, ↓reduceIte]; rfl), by (first | exact leV_refl _ | (simp only [go_sem, leV, leVL, leD, leDL, lenc_nil, leD_refl, leDL_refl, ↓reduceIte]; done)), by (intro r hr; simp only [go_sem, rowsOf, rowsOfL, List.mem_cons, List.not_mem_nil, or_false, List.append_nil, ↓reduceIte] at hr; subst hr; rfl)⟩ | apply And.intro)))
    (h4 : heapRefs τ.heap τ.heap := by (repeat' (first | exact trivial | exact row_refs _ _ | exact rfl | apply And.intro | (simp only [go_sem, ↓reduceIte]; done)))) (h5 : σ.dfr = τ.dfr ∧ refsInL τ.heap τ.dfr ∧ σ.gh = τ.gh := by first | exact ⟨rfl, trivial, rfl⟩ | exact ⟨rfl, (by simp only [go_sem, envL, envLGo, ↓reduceIte]), rfl⟩) : Sub G N σ τ := Sub.cv h2 h1 h4 h5
end
end Go.Pv

namespace Go.Pv.Tryd
open Go.Proofs Go.Pv
theorem lenc_nil_of {α : Type} {f : α → PD} {l : List α} (h : lenc f l = []) : l = [] := by simpa [lenc] using h
theorem clone_offers (l r : List Offer) (h : cloneO l = some r) : RowFn Tryd.prog G 61 [.d (.imm 4 (lenc Offer.pd l))] 43 4 (lenc Offer.pd r) := by
  unfold cloneO at h
  split at h
  · rename_i hlen
    cases h
    refine Fn.pf Tryd.func61 Tryd.ntmps61 ?_
    refine sg fun K k => ?_
    refine oo ?_
    refine AOps.nil (k _ ?_)
    refine AWp.seq fun _ K_1 => ?_
    refine sg fun K k => ?_
    refine oo ?_
    refine nt ty22 T22_desc (fun he => ?_) ?_
    · simp only [go_sem, ↓reduceIte]
      refine AOps.nil (k _ ?_)
      refine cdt ?_
      cases lenc_nil_of he
      refine sg fun K k => ?_
      refine oo ?_
      refine AOps.nil (k _ ?_)
      refine AWp.sub (Sub.void 2 43 4 1000 (by rfl) (by rfl) (by decide) (by decide)) ?_
      simp only [eput, hput, ↓reduceIte, Nat.reduceEqDiff]
      refine AWp.ret ?_
      exact rtRow (hn := by rfl)
    · simp only [go_sem, ↓reduceIte]
      refine AOps.nil (k _ ?_)
      refine cdf ?_
      refine AWp.skip ?_
      refine K_1 _ ?_
      refine sg fun K k => ?_
      iterate 4 refine oo ?_
      refine AOps.nil (k _ ?_)
      refine AWp.ret ?_
      exact rtRow (hn := by rw [lenc_length])
  · cases h
theorem app_els {α : Type} {f : α → PD} {L : List α} {a b : Nat} : (dl (lenc f L)).take a ++ dl (lenc f (L.drop b)) ++ (dl (lenc f L)).drop (a + (dl (lenc f (L.drop b))).length) = dl (lenc f (L.take a ++ L.drop b ++ L.drop (a + (L.length - b)))) := by
  simp [dl, lenc, List.map_take, List.map_drop]
theorem clr_els {L : List Offer} {a b : Nat} (hab : a ≤ b) (hb : b ≤ L.length) : (dl (lenc Offer.pd (L.take a ++ L.drop b ++ L.drop (a + (L.length - b))))).take (a + (L.length - b)) ++ List.replicate (L.length - (a + (L.length - b))) (PV.d (.agg [(.int .i64 0), (.int .i64 0), (.int .i64 0), (.int .i64 0)])) ++ (dl (lenc Offer.pd (L.take a ++ L.drop b ++ L.drop (a + (L.length - b))))).drop (a + (L.length - b) + (L.length - (a + (L.length - b)))) = dl (lenc Offer.pd (delP L (a : Int) (b : Int))) := by
  have e1 : (L.take a ++ L.drop b ++ L.drop (a + (L.length - b))).take (a + (L.length - b)) = L.take a ++ L.drop b := by
    rw [List.take_append_of_le_length (by simp; omega), List.take_of_length_le (by simp; omega)]
  have e2 : (L.take a ++ L.drop b ++ L.drop (a + (L.length - b))).drop (a + (L.length - b) + (L.length - (a + (L.length - b)))) = [] := List.drop_eq_nil_of_le (by simp; omega)
  have e3 : ((b : Int) - (a : Int)).toNat = L.length - (a + (L.length - b)) := by omega
  unfold delP
  rw [e3, Int.toNat_natCast, Int.toNat_natCast]
  have t : ∀ (M : List Offer) k, (dl (lenc Offer.pd M)).take k = dl (lenc Offer.pd (M.take k)) := fun M k => by simp [dl, lenc, List.map_take]
  have d : ∀ (M : List Offer) k, (dl (lenc Offer.pd M)).drop k = dl (lenc Offer.pd (M.drop k)) := fun M k => by simp [dl, lenc, List.map_drop]
  rw [t, d, e1, e2]
  simp [dl, lenc, Offer.pd]
theorem delete_hand (L : List Offer) (i j : Int) (h : delOk L i j = true) : HandFn Tryd.prog G 60 [.slc 0 0 L.length, .d (.int .i64 i), .d (.int .i64 j)] 0 43 4 (lenc Offer.pd L) (.slc 0 0 (delN L i j)) (lenc Offer.pd (delP L i j)) := by
  unfold delOk at h
  rw [decide_eq_true_eq] at h
  obtain ⟨h1, h2, h3, h4⟩ := h
  obtain ⟨a, rfl⟩ : ∃ a : Nat, i = a := ⟨i.toNat, by omega⟩
  obtain ⟨b, rfl⟩ : ∃ b : Nat, j = b := ⟨j.toNat, by omega⟩
  have hab : a ≤ b := by omega
  have hbn : b ≤ L.length := by omega
  have hN : delN L (a : Int) (b : Int) = a + (L.length - b) := by unfold delN; omega
  refine HandFn.pf Tryd.func60 Tryd.ntmps60 (by unfold delP; simp [lenc]; omega) ?_
  refine sg fun K k => ?_
  refine oo ?_
  refine AOps.nil (k _ ?_)
  refine sg fun K k => ?_
  iterate 5 refine oo ?_
  refine on (fun K' hK' => OpT.slice3 (by rfl) ty22 T22_desc ty43 (by rfl) (by rfl) (by rfl) (by rfl) (by omega) (by omega) (by omega) (by omega) (by simp only [go_sem, ↓reduceIte]) (hK' _ ?_))
  simp only [go_sem, ↓reduceIte]
  refine AOps.nil (k _ ?_)
  refine AWp.seq fun _ K_1 => ?_
  refine sg fun K k => ?_
  iterate 3 refine oo ?_
  refine AOps.nil (k _ ?_)
  refine AWp.cond (by rfl) (fun hb => ?_) (fun hb => ?_)
  · have e : a = b := by simp at hb; omega
    subst e
    refine sg fun K k => ?_
    iterate 2 refine oo ?_
    refine AOps.nil (k _ ?_)
    refine AWp.ret ?_
    have e1 : delN L (a : Int) (a : Int) = L.length := by unfold delN; omega
    have e2 : delP L (a : Int) (a : Int) = L := by unfold delP; simp
    rw [e1, e2]
    exact rtHand (hp := by simp only [go_sem, ↓reduceIte]) (hpr := rfl) (hh := rfl)
  · have hlt : a < b := by simp at hb; omega
    refine AWp.skip ?_
    refine K_1 _ ?_
    refine sg fun K k => ?_
    iterate 3 refine oo ?_
    refine AOps.nil (k _ ?_)
    refine sd mo fun K k => ?_
    iterate 3 refine dd ?_
    iterate 2 refine dd ?_
    by_cases hjn : b = L.length
    · subst hjn
      refine dn rfl (fun K' hK' => OpX.sliceEnd (by rfl) ty22 T22_desc ty43 (by rfl) (by rfl) (by simp only [go_sem]) 4 (by simp only [go_sem]) (hK' _ _ ?_))
      simp only [go_sem, ↓reduceIte, show ((a : Int) - 0).toNat = a by omega]
      refine dn rfl (fun K' hK' => OpX.solo (σ1 := ⟨_, [(0, ⟨43, 4, dl (lenc Offer.pd (L.take a ++ L.drop L.length ++ L.drop (a + (L.length - L.length))))⟩)], [], none⟩) rfl rfl (OpT.appendIn (r := 0) (n := a) (row := ⟨43, 4, dl (lenc Offer.pd L)⟩) (L := dl (lenc Offer.pd (L.drop L.length))) (by rfl) ty22 T22_desc ty43 (by rw [T43_size]; decide) (by rfl) (by rfl) (by rfl) (by rw [T43_size]) (by show srcV T43.size _ (.d (.imm 4 [])) = _; simp only [srcV, ↓reduceIte, T43_size]; simp [dl, lenc]) (by simp [dl, lenc] <;> omega) (by simp only [go_sem]) (by rw [app_els, show (dl (lenc Offer.pd (L.drop L.length))).length = L.length - L.length by simp [dl, lenc]]; simp only [St.put, eput, hput, ↓reduceIte, Nat.reduceEqDiff]; rfl)) (hK' _ _ ?_))
      refine dd ?_
      refine DOps.nil (by kernel_rfl) (k _ ?_)
      refine sg fun K k => ?_
      iterate 4 refine oo ?_
      refine on (fun K' hK' => OpT.sliceIn (r := 0) (n := a + (L.length - L.length)) (row := ⟨43, 4, dl (lenc Offer.pd (L.take a ++ L.drop L.length ++ L.drop (a + (L.length - L.length))))⟩) (a1 := a + (L.length - L.length)) (b1 := L.length) (by rfl) ty22 T22_desc ty43 (by rfl) (by rfl) (by rw [T43_size]) (by rfl) (by rfl) (by omega) (by simp [dl, lenc] <;> omega) (by simp [dl, lenc] <;> omega) (by simp only [go_sem]) (hK' _ ?_))
      simp only [go_sem, ↓reduceIte]
      obtain ⟨zv, z1, z2, z3, z4⟩ := zeroPV_some T43_zero
      refine on (fun K' hK' => OpT.clear (r := 0) (lo := a + (L.length - L.length)) (n := L.length - (a + (L.length - L.length))) (row := ⟨43, 4, dl (lenc Offer.pd (L.take a ++ L.drop L.length ++ L.drop (a + (L.length - L.length))))⟩) (by rfl) ty22 T22_desc ty43 z1 z2 z3 z4 (by rfl) (by rfl) (by rw [T43_size]) (by rfl) (hK' _ ?_))
      dsimp only
      rw [clr_els hab hbn]
      simp only [hput, ↓reduceIte]
      refine AOps.nil (k _ ?_)
      refine sg fun K k => ?_
      iterate 2 refine oo ?_
      refine AOps.nil (k _ ?_)
      refine AWp.ret ?_
      exact rtHand (p := .slc 0 0 (a + (L.length - L.length))) (hp := by simp only [go_sem, ↓reduceIte]) (hpr := by rw [hN]) (hh := rfl)
    · refine dd ?_
      simp only [show ((a : Int) - 0).toNat = a by omega, Int.toNat_natCast, show ((L.length : Int) - (b : Int)).toNat = L.length - b by omega]
      refine dn rfl (fun K' hK' => OpX.solo (σ1 := ⟨_, [(0, ⟨43, 4, dl (lenc Offer.pd (L.take a ++ L.drop b ++ L.drop (a + (L.length - b))))⟩)], [], none⟩) rfl rfl (OpT.appendIn (r := 0) (n := a) (row := ⟨43, 4, dl (lenc Offer.pd L)⟩) (L := dl (lenc Offer.pd (L.drop b))) (by rfl) ty22 T22_desc ty43 (by rw [T43_size]; decide) (by rfl) (by rfl) (by rfl) (by rw [T43_size]) (by show srcV T43.size _ (.slc 0 b (L.length - b)) = _; simp only [srcV, hget, ↓reduceIte, T43_size]; rw [List.take_of_length_le (by simp [dl, lenc])]; simp [dl, lenc, List.map_drop]) (by simp [dl, lenc] <;> omega) (by simp only [go_sem]) (by rw [app_els, show (dl (lenc Offer.pd (L.drop b))).length = L.length - b by simp [dl, lenc]]; simp only [St.put, eput, hput, ↓reduceIte, Nat.reduceEqDiff]; rfl)) (hK' _ _ ?_))
      refine dd ?_
      refine DOps.nil (by kernel_rfl) (k _ ?_)
      refine sg fun K k => ?_
      iterate 4 refine oo ?_
      refine on (fun K' hK' => OpT.sliceIn (r := 0) (n := a + (L.length - b)) (row := ⟨43, 4, dl (lenc Offer.pd (L.take a ++ L.drop b ++ L.drop (a + (L.length - b))))⟩) (a1 := a + (L.length - b)) (b1 := L.length) (by rfl) ty22 T22_desc ty43 (by rfl) (by rfl) (by rw [T43_size]) (by rfl) (by rfl) (by omega) (by simp [dl, lenc] <;> omega) (by simp [dl, lenc] <;> omega) (by simp only [go_sem]) (hK' _ ?_))
      simp only [go_sem, ↓reduceIte]
      obtain ⟨zv, z1, z2, z3, z4⟩ := zeroPV_some T43_zero
      refine on (fun K' hK' => OpT.clear (r := 0) (lo := a + (L.length - b)) (n := L.length - (a + (L.length - b))) (row := ⟨43, 4, dl (lenc Offer.pd (L.take a ++ L.drop b ++ L.drop (a + (L.length - b))))⟩) (by rfl) ty22 T22_desc ty43 z1 z2 z3 z4 (by rfl) (by rfl) (by rw [T43_size]) (by rfl) (hK' _ ?_))
      dsimp only
      rw [clr_els hab hbn]
      simp only [hput, ↓reduceIte]
      refine AOps.nil (k _ ?_)
      refine sg fun K k => ?_
      iterate 2 refine oo ?_
      refine AOps.nil (k _ ?_)
      refine AWp.ret ?_
      exact rtHand (p := .slc 0 0 (a + (L.length - b))) (hp := by simp only [go_sem, ↓reduceIte]) (hpr := by rw [hN]) (hh := rfl)
end Go.Pv.Tryd

namespace Go.Pv.Tryd
open Go.Proofs Go.Pv
theorem m_rate_Needless_ok (n1 : Int) (offers1 : (List Offer)) (r : ((List Int) × Int)) (h : m_rate_Needless n1 offers1 = some r) : PureFn Tryd.prog G 31 [.d (.int .i64 n1), .d (.imm 4 (lenc Offer.pd offers1))] (.tuple [.d (.imm 1 (lenc (PD.int .i64) r.1)), .d (.int .i64 r.2)]) := by
 unfold m_rate_Needless at h
 refine pf Tryd.func31 Tryd.ntmps31 ?_
 refine sg fun K k => ?_
 iterate 2 refine oo ?_
 refine AOps.nil (k _ ?_)
 refine sg fun K k => ?_
 iterate 2 refine oo ?_
 obtain ⟨r1, hx_1, h⟩ := bind_some h
 refine cl (m_rate_of_ok n1 offers1 _ hx_1) ?_
 iterate 6 refine oo ?_
 refine AOps.nil (k _ ?_)
 refine AWp.seq fun _ K_2 => ?_
 refine AWp.block ?_
 refine sg fun K k => ?_
 iterate 3 refine oo ?_
 refine AOps.nil (k _ ?_)
 refine cd h (fun h => ?_) (fun h => ?_)
 ·refine sg fun K k => ?_
  iterate 3 refine oo ?_
  refine AOps.nil (k _ ?_)
  refine AWp.ret ?_
  cases h; exact rt
 ·refine sg fun K k => ?_
  refine oo ?_
  obtain ⟨r2, hx_4, h⟩ := bind_some h
  refine cl (m_rate_market_round_ok r1.1 _ hx_4) ?_
  iterate 2 refine oo ?_
  refine AOps.nil (k _ ?_)
  refine cd h (fun h => ?_) (fun h => ?_)
  ·refine sg fun K k => ?_
   iterate 2 refine oo ?_
   refine AOps.nil (k _ ?_)
   refine AWp.ret ?_
   cases h; exact rt
  ·refine AWp.skip ?_
   refine K_2 _ ?_
   refine sg fun K k => ?_
   refine oo ?_
   refine AOps.nil (k _ ?_)
   refine AWp.sub (Sub.void 8 3 1 1001 (by rfl) (by rfl) (by decide) (by decide)) ?_
   simp only [eput, hput, reduceCtorEq, ↓reduceIte, Nat.reduceAdd, Nat.reduceMul, Nat.reduceLT, Nat.reduceLeDiff, Nat.reduceEqDiff, Nat.reduceBEq, Int.reduceToNat]
   refine jn (α := (List Int)) [] [] (fun i t => (8, .slc 1001 0 i.length) :: t) (fun i t => (1001, ⟨3, 1, dl (lenc (PD.int .i64) i)⟩) :: t) h ?_ ?_
   ·intro _ hj_7
    refine sg fun K k => ?_
    iterate 3 refine oo ?_
    refine AOps.nil (k _ ?_)
    refine AWp.block ?_
    obtain ⟨x_12, hl_9, h2_10⟩ := bind_some hj_7
    refine lp (S := (Int × (List Int))) [0, 1, 28, 29] [] (fun i t => (8, .slc 1001 0 i.2.length) :: (30, .d (.int .i64 i.1)) :: t) (fun i t => (1001, ⟨3, 1, dl (lenc (PD.int .i64) i.2)⟩) :: t) hl_9 ?_ ?_; exact sb; clear hl_9
    rintro ⟨v1, L2⟩ _ hb_11; unfold m_rate_Needless_l1 at hb_11; try dsimp only at hb_11
    try dsimp only
    refine sg fun K k => ?_
    refine oo ?_
    refine AOps.nil (k _ ?_)
    refine AWp.seq fun _ K_14 => ?_
    refine cd hb_11 (fun hb_11 => ?_) (fun hb_11 => ?_)
    ·refine AWp.skip ?_
     refine K_14 _ ?_
     refine jn (α := (List Int)) [0, 1, 28, 29, 30] [] (fun i t => (8, .slc 1001 0 i.length) :: t) (fun i t => (1001, ⟨3, 1, dl (lenc (PD.int .i64) i)⟩) :: t) hb_11 ?_ ?_
     ·intro _ hj_17
      refine AWp.block ?_
      refine sg fun K k => ?_
      obtain ⟨e1, ⟨f_18, f_19, f_20, f_21⟩, hj_17⟩ := idx_bind hj_17
      iterate 2 refine oo ?_
      refine oo ?_ (by intro K k; simp (disch := omega) only [go_sem, f_20, ↓reduceIte]; exact k)
      iterate 3 refine oo ?_
      refine AOps.nil (k _ ?_)
      refine sg fun K k => ?_
      iterate 2 refine oo ?_
      obtain ⟨r3, hx_22, hj_17⟩ := bind_some hj_17
      refine clRow 1003 (clone_offers offers1 _ hx_22) ?_
      obtain ⟨hg_23, hj_17⟩ := guardO_some hj_17
      iterate 3 refine oo ?_
      refine clH 1003 (delete_hand r3 v1 (IntKind.i64.wrap (v1 + 1)) hg_23) ?_
      refine AOps.sub (τ := ⟨[(0, .d (.int .i64 n1)), (1, .d (.imm 4 (lenc Offer.pd offers1))), (8, .slc 1001 0 L2.length), (9, .d (.int .i64 v1)), (10, .ptr 1002 0 0), (28, .d (.imm 4 (lenc Offer.pd offers1))), (29, .d (.int .i64 (offers1.length : Int))), (30, .d (.int .i64 v1)), (35, .d (.int .i64 n1)), (41, .d (.imm 4 (lenc Offer.pd (List.take (delN r3 v1 (IntKind.i64.wrap (v1 + 1))) (delP r3 v1 (IntKind.i64.wrap (v1 + 1)))))))], [(1001, ⟨3, 1, dl (lenc (PD.int .i64) L2)⟩), (1002, ⟨43, 4, [.d (.agg [(.int .i64 e1.From), (.int .i64 e1.To), (.int .i64 e1.Num), (.int .i64 e1.Den)])]⟩)], [], none⟩) sct ?_
      iterate 3 refine oo ?_
      refine AOps.nil (k _ ?_)
      refine sg fun K k => ?_
      iterate 5 refine oo ?_
      obtain ⟨r4, hx_24, hj_17⟩ := bind_some hj_17
      refine cl (m_rate_market_best_ok (⟨n1, (List.take (delN r3 v1 (IntKind.i64.wrap (v1 + 1))) (delP r3 v1 (IntKind.i64.wrap (v1 + 1))))⟩ : Market) e1.From e1.To _ hx_24) ?_
      iterate 6 refine oo ?_
      refine AOps.nil (k _ ?_)
      refine sd mo fun K k => ?_
      iterate 2 refine dd ?_
      rcases bt r4.2 with hg_25 | hg_25
      ·rw [hg_25]
       rw [hg_25, cond_true] at hj_17
       iterate 4 refine dd ?_
       obtain ⟨r5, hx_26, hj_17⟩ := bind_some hj_17
       refine dcl (m_rate_ratio_ok e1.Num e1.Den _ hx_26) ?_
       iterate 2 refine dd ?_
       obtain ⟨r6, hx_27, hj_17⟩ := bind_some hj_17
       refine dcl (m_rate_above_ok r5 r4.1.rate _ hx_27) ?_
       iterate 2 refine dd ?_
       refine DOps.nil (by kernel_rfl) (k _ ?_)
       refine cd hj_17 (fun hj_17 => ?_) (fun hj_17 => ?_)
       ·refine AWp.reg ?_
        iterate 2 refine oo ?_
        refine ol ?_
        obtain ⟨hg_29, hj_17⟩ := guardO_some hj_17
        iterate 2 refine oo ?_
        refine AOps.nil ?_
        cases hj_17; exact sb
       ·refine AWp.skip ?_
        cases hj_17; exact sb
      ·rw [hg_25]
       rw [hg_25, cond_false] at hj_17
       iterate 10 refine dd ?_
       refine DOps.nil (by kernel_rfl) (k _ ?_)
       refine cdf ?_
       refine AWp.skip ?_
       cases hj_17; exact sb
     ·rintro L3 hb_11; dsimp only at hb_11 ⊢
      refine AWp.reg ?_
      iterate 2 refine oo ?_
      refine AOps.nil ?_
      exact ln hb_11 sb
    ·refine AWp.exit ?_
     refine lx hb_11 fun hx => ?_; cases hx; try dsimp only at h2_10
     cases h2_10; exact sb
   ·rintro L1 h; dsimp only at h ⊢
    refine sg fun K k => ?_
    iterate 3 refine oo ?_
    refine AOps.nil (k _ ?_)
    refine AWp.ret ?_
    cases h; exact rt
end Go.Pv.Tryd

namespace Go.Pv.Tryd
open Go.Proofs Go.Pv
theorem m_cocketref01_Good_ok (n1 : Int) (l1 : (List Offer)) (r : Int) (h : m_cocketref01_Good n1 l1 = some r) : PureFn Tryd.prog G 28 [.d (.int .i64 n1), .d (.imm 4 (lenc Offer.pd l1))] (.d (.int .i64 r)) := by
 unfold m_cocketref01_Good at h
 refine pf Tryd.func28 Tryd.ntmps28 ?_
 refine sg fun K k => ?_
 refine oo ?_
 refine AOps.nil (k _ ?_)
 refine AWp.seq fun _ K_1 => ?_
 refine sg fun K k => ?_
 iterate 3 refine oo ?_
 refine ct 3 [0, 1] [] (fun  t => (12, .d (.bool ((decide (n1 < 2)) || (decide (6 < n1))))) :: t) ?_ ?_
 ·rcases bt (decide (n1 < 2)) with hg_3 | hg_3
  ·rw [hg_3]
   iterate 3 refine oo ?_
   refine AOps.nil ?_
   exact sb
  ·rw [hg_3]
   iterate 3 refine oo ?_
   refine AOps.nil ?_
   exact sb
 refine AOps.nil (k _ ?_)
 refine cd h (fun h => ?_) (fun h => ?_)
 ·refine sg fun K k => ?_
  refine oo ?_
  refine AOps.nil (k _ ?_)
  refine AWp.ret ?_
  cases h; exact rt
 ·refine AWp.skip ?_
  refine K_1 _ ?_
  refine AWp.seq fun _ K_5 => ?_
  refine sg fun K k => ?_
  iterate 3 refine oo ?_
  refine AOps.nil (k _ ?_)
  refine cd h (fun h => ?_) (fun h => ?_)
  ·refine sg fun K k => ?_
   refine oo ?_
   refine AOps.nil (k _ ?_)
   refine AWp.ret ?_
   cases h; exact rt
  ·refine AWp.skip ?_
   refine K_5 _ ?_
   refine jm (ι := Unit) [] [] (fun i t => t) (fun i t => t) .inl h ?_ ?_
   ·intro _ hj_8 h
    refine sg fun K k => ?_
    refine oo ?_
    refine AOps.nil (k _ ?_)
    refine AWp.block ?_
    obtain ⟨x_13, hl_10, h2_11⟩ := bind_some hj_8
    refine lp (S := Int) [0, 1] [] (fun i t => (5, .d (.int .i64 i)) :: t) (fun i t => t) hl_10 ?_ ?_; exact sb; clear hl_10
    rintro i1 _ hb_12; unfold m_cocketref01_Good_l1 at hb_12; try dsimp only at hb_12
    try dsimp only
    refine AWp.seq fun _ K_15 => ?_
    refine sg fun K k => ?_
    iterate 4 refine oo ?_
    refine AOps.nil (k _ ?_)
    refine cd hb_12 (fun hb_12 => ?_) (fun hb_12 => ?_)
    ·refine AWp.skip ?_
     refine K_15 _ ?_
     refine AWp.seq fun _ K_17 => ?_
     refine AWp.block ?_
     refine sg fun K k => ?_
     obtain ⟨e1, ⟨f_18, f_19, f_20, f_21⟩, hb_12⟩ := idx_bind hb_12
     iterate 3 refine oo ?_
     refine oo ?_ (by intro K k; simp (disch := omega) only [go_sem, f_20, ↓reduceIte]; exact k)
     iterate 2 refine oo ?_
     refine AOps.nil (k _ ?_)
     refine sg fun K k => ?_
     iterate 4 refine oo ?_
     refine ct 5 [0, 1, 5, 6] [1000] (fun  t => (34, .d (.bool ((decide (e1.From < 0)) || (decide (n1 ≤ e1.From))))) :: t) ?_ ?_
     ·rcases bt (decide (e1.From < 0)) with hg_23 | hg_23
      ·rw [hg_23]
       iterate 5 refine oo ?_
       refine AOps.nil ?_
       exact sb
      ·rw [hg_23]
       iterate 5 refine oo ?_
       refine AOps.nil ?_
       exact sb
     refine oo ?_
     refine ct 4 [0, 1, 5, 6] [1000] (fun  t => (39, .d (.bool (((decide (e1.From < 0)) || (decide (n1 ≤ e1.From))) || (decide (e1.To < 0))))) :: t) ?_ ?_
     ·rcases bt ((decide (e1.From < 0)) || (decide (n1 ≤ e1.From))) with hg_25 | hg_25
      ·rw [hg_25]
       iterate 4 refine oo ?_
       refine AOps.nil ?_
       exact sb
      ·rw [hg_25]
       iterate 4 refine oo ?_
       refine AOps.nil ?_
       exact sb
     refine oo ?_
     refine ct 5 [0, 1, 5, 6] [1000] (fun  t => (45, .d (.bool ((((decide (e1.From < 0)) || (decide (n1 ≤ e1.From))) || (decide (e1.To < 0))) || (decide (n1 ≤ e1.To))))) :: t) ?_ ?_
     ·rcases bt (((decide (e1.From < 0)) || (decide (n1 ≤ e1.From))) || (decide (e1.To < 0))) with hg_27 | hg_27
      ·rw [hg_27]
       iterate 5 refine oo ?_
       refine AOps.nil ?_
       exact sb
      ·rw [hg_27]
       iterate 5 refine oo ?_
       refine AOps.nil ?_
       exact sb
     refine oo ?_
     refine ct 6 [0, 1, 5, 6] [1000] (fun  t => (52, .d (.bool (((((decide (e1.From < 0)) || (decide (n1 ≤ e1.From))) || (decide (e1.To < 0))) || (decide (n1 ≤ e1.To))) || (decide (e1.From = e1.To))))) :: t) ?_ ?_
     ·rcases bt ((((decide (e1.From < 0)) || (decide (n1 ≤ e1.From))) || (decide (e1.To < 0))) || (decide (n1 ≤ e1.To))) with hg_29 | hg_29
      ·rw [hg_29]
       iterate 6 refine oo ?_
       refine AOps.nil ?_
       exact sb
      ·rw [hg_29]
       iterate 6 refine oo ?_
       refine AOps.nil ?_
       exact sb
     refine oo ?_
     refine ct 4 [0, 1, 5, 6] [1000] (fun  t => (57, .d (.bool ((((((decide (e1.From < 0)) || (decide (n1 ≤ e1.From))) || (decide (e1.To < 0))) || (decide (n1 ≤ e1.To))) || (decide (e1.From = e1.To))) || (decide (e1.Num < 1))))) :: t) ?_ ?_
     ·rcases bt (((((decide (e1.From < 0)) || (decide (n1 ≤ e1.From))) || (decide (e1.To < 0))) || (decide (n1 ≤ e1.To))) || (decide (e1.From = e1.To))) with hg_31 | hg_31
      ·rw [hg_31]
       iterate 4 refine oo ?_
       refine AOps.nil ?_
       exact sb
      ·rw [hg_31]
       iterate 4 refine oo ?_
       refine AOps.nil ?_
       exact sb
     refine oo ?_
     refine ct 4 [0, 1, 5, 6] [1000] (fun  t => (62, .d (.bool (((((((decide (e1.From < 0)) || (decide (n1 ≤ e1.From))) || (decide (e1.To < 0))) || (decide (n1 ≤ e1.To))) || (decide (e1.From = e1.To))) || (decide (e1.Num < 1))) || (decide (50 < e1.Num))))) :: t) ?_ ?_
     ·rcases bt ((((((decide (e1.From < 0)) || (decide (n1 ≤ e1.From))) || (decide (e1.To < 0))) || (decide (n1 ≤ e1.To))) || (decide (e1.From = e1.To))) || (decide (e1.Num < 1))) with hg_33 | hg_33
      ·rw [hg_33]
       iterate 4 refine oo ?_
       refine AOps.nil ?_
       exact sb
      ·rw [hg_33]
       iterate 4 refine oo ?_
       refine AOps.nil ?_
       exact sb
     refine oo ?_
     refine ct 4 [0, 1, 5, 6] [1000] (fun  t => (67, .d (.bool ((((((((decide (e1.From < 0)) || (decide (n1 ≤ e1.From))) || (decide (e1.To < 0))) || (decide (n1 ≤ e1.To))) || (decide (e1.From = e1.To))) || (decide (e1.Num < 1))) || (decide (50 < e1.Num))) || (decide (e1.Den < 1))))) :: t) ?_ ?_
     ·rcases bt (((((((decide (e1.From < 0)) || (decide (n1 ≤ e1.From))) || (decide (e1.To < 0))) || (decide (n1 ≤ e1.To))) || (decide (e1.From = e1.To))) || (decide (e1.Num < 1))) || (decide (50 < e1.Num))) with hg_35 | hg_35
      ·rw [hg_35]
       iterate 4 refine oo ?_
       refine AOps.nil ?_
       exact sb
      ·rw [hg_35]
       iterate 4 refine oo ?_
       refine AOps.nil ?_
       exact sb
     refine oo ?_
     refine ct 4 [0, 1, 5] [] (fun  t => (72, .d (.bool (((((((((decide (e1.From < 0)) || (decide (n1 ≤ e1.From))) || (decide (e1.To < 0))) || (decide (n1 ≤ e1.To))) || (decide (e1.From = e1.To))) || (decide (e1.Num < 1))) || (decide (50 < e1.Num))) || (decide (e1.Den < 1))) || (decide (50 < e1.Den))))) :: t) ?_ ?_
     ·rcases bt ((((((((decide (e1.From < 0)) || (decide (n1 ≤ e1.From))) || (decide (e1.To < 0))) || (decide (n1 ≤ e1.To))) || (decide (e1.From = e1.To))) || (decide (e1.Num < 1))) || (decide (50 < e1.Num))) || (decide (e1.Den < 1))) with hg_37 | hg_37
      ·rw [hg_37]
       iterate 4 refine oo ?_
       refine AOps.nil ?_
       exact sb
      ·rw [hg_37]
       iterate 4 refine oo ?_
       refine AOps.nil ?_
       exact sb
     refine AOps.nil (k _ ?_)
     refine cd hb_12 (fun hb_12 => ?_) (fun hb_12 => ?_)
     ·refine sg fun K k => ?_
      refine oo ?_
      refine AOps.nil (k _ ?_)
      refine AWp.ret ?_
      refine lx hb_12 fun hx => ?_; cases hx; try dsimp only at h2_11
      cases h2_11; try dsimp only at h
      cases h; exact rt
     ·refine AWp.skip ?_
      refine K_17 _ ?_
      refine AWp.reg ?_
      iterate 3 refine oo ?_
      refine AOps.nil ?_
      exact ln hb_12 sb
    ·refine AWp.exit ?_
     refine lx hb_12 fun hx => ?_; cases hx; try dsimp only at h2_11
     exact ln h2_11 sb
   ·rintro _ h; dsimp only at h ⊢
    refine sg fun K k => ?_
    refine oo ?_
    refine AOps.nil (k _ ?_)
    refine AWp.ret ?_
    cases h; exact rt
end Go.Pv.Tryd

namespace Go.Pv.Tryd
open Go.Proofs Go.Pv
theorem m_cocketref01_trim_ok (d1 : (List Int)) (r : (List Int)) (h : m_cocketref01_trim d1 = some r) : PureFn Tryd.prog G 98 [.d (.imm 1 (lenc (PD.int .i64) d1))] (.d (.imm 1 (lenc (PD.int .i64) r))) := by
 unfold m_cocketref01_trim at h
 refine pf Tryd.func98 Tryd.ntmps98 ?_
 refine sg fun K k => ?_
 refine oo ?_
 refine AOps.nil (k _ ?_)
 refine sg fun K k => ?_
 iterate 3 refine oo ?_
 refine AOps.nil (k _ ?_)
 refine jn (α := Int) [0] [] (fun i t => (3, .d (.int .i64 i)) :: t) (fun i t => t) h ?_ ?_
 ·intro _ hj_2
  refine AWp.block ?_
  obtain ⟨x_7, hl_4, h2_5⟩ := bind_some hj_2
  refine lp (S := Int) [0] [] (fun i t => (3, .d (.int .i64 i)) :: t) (fun i t => t) hl_4 ?_ ?_; exact sb; clear hl_4
  rintro n2 _ hb_6; unfold m_cocketref01_trim_l1 at hb_6; try dsimp only at hb_6
  try dsimp only
  refine AWp.seq fun _ K_9 => ?_
  refine sg fun K k => ?_
  iterate 3 refine oo ?_
  obtain ⟨b1, hc_10, hb_6⟩ := bind_some hb_6
  refine ct 7 [0, 3] [] (fun  t => (17, .d (.bool b1)) :: t) ?_ ?_
  ·rcases bt (decide (0 < n2)) with hg_15 | hg_15
   ·rw [hg_15]
    rw [hg_15, cond_true] at hc_10
    obtain ⟨e1, ⟨f_11, f_12, f_13, f_14⟩, hc_10⟩ := idx_bind hc_10
    iterate 4 refine oo ?_
    refine oo ?_ (by intro K k; simp (disch := omega) only [go_sem, f_13, ↓reduceIte]; exact k)
    iterate 2 refine oo ?_
    refine AOps.nil ?_
    cases hc_10
    exact sb
   ·rw [hg_15]
    rw [hg_15, cond_false] at hc_10
    iterate 7 refine oo ?_
    refine AOps.nil ?_
    cases hc_10
    exact sb
  refine AOps.nil (k _ ?_)
  refine cd hb_6 (fun hb_6 => ?_) (fun hb_6 => ?_)
  ·refine AWp.skip ?_
   refine K_9 _ ?_
   refine AWp.block ?_
   refine AWp.reg ?_
   iterate 3 refine oo ?_
   refine AOps.nil ?_
   exact ln hb_6 sb
  ·refine AWp.exit ?_
   refine lx hb_6 fun hx => ?_; cases hx; try dsimp only at h2_5
   cases h2_5; exact sb
 ·rintro n1 h; dsimp only at h ⊢
  refine sg fun K k => ?_
  refine oo ?_
  refine AOps.nil (k _ ?_)
  refine AWp.sub (Sub.void 4 3 1 1000 (by rfl) (by rfl) (by decide) (by decide)) ?_
  simp only [eput, hput, reduceCtorEq, ↓reduceIte, Nat.reduceAdd, Nat.reduceMul, Nat.reduceLT, Nat.reduceLeDiff, Nat.reduceEqDiff, Nat.reduceBEq, Int.reduceToNat]
  refine jn (α := (List Int)) [] [] (fun i t => (4, .slc 1000 0 i.length) :: t) (fun i t => (1000, ⟨3, 1, dl (lenc (PD.int .i64) i)⟩) :: t) h ?_ ?_
  ·intro _ hj_18
   refine sg fun K k => ?_
   refine oo ?_
   refine AOps.nil (k _ ?_)
   refine AWp.block ?_
   obtain ⟨x_23, hl_20, h2_21⟩ := bind_some hj_18
   refine lp (S := (Int × (List Int))) [0, 3] [] (fun i t => (4, .slc 1000 0 i.2.length) :: (5, .d (.int .i64 i.1)) :: t) (fun i t => (1000, ⟨3, 1, dl (lenc (PD.int .i64) i.2)⟩) :: t) hl_20 ?_ ?_; exact sb; clear hl_20
   rintro ⟨i1, L2⟩ _ hb_22; unfold m_cocketref01_trim_l2 at hb_22; try dsimp only at hb_22
   try dsimp only
   refine AWp.seq fun _ K_25 => ?_
   refine sg fun K k => ?_
   iterate 3 refine oo ?_
   refine AOps.nil (k _ ?_)
   refine cd hb_22 (fun hb_22 => ?_) (fun hb_22 => ?_)
   ·refine AWp.skip ?_
    refine K_25 _ ?_
    refine AWp.seq fun _ K_27 => ?_
    refine AWp.block ?_
    refine AWp.reg ?_
    obtain ⟨e2, ⟨f_28, f_29, f_30, f_31⟩, hb_22⟩ := idx_bind hb_22
    iterate 4 refine oo ?_
    refine oo ?_ (by intro K k; simp (disch := omega) only [go_sem, f_30, ↓reduceIte]; exact k)
    refine ol ?_
    obtain ⟨hg_32, hb_22⟩ := guardO_some hb_22
    iterate 2 refine oo ?_
    refine AOps.nil ?_
    refine K_27 _ ?_
    refine AWp.reg ?_
    iterate 3 refine oo ?_
    refine AOps.nil ?_
    exact ln hb_22 sb
   ·refine AWp.exit ?_
    refine lx hb_22 fun hx => ?_; cases hx; try dsimp only at h2_21
    cases h2_21; exact sb
  ·rintro L1 h; dsimp only at h ⊢
   refine sg fun K k => ?_
   iterate 2 refine oo ?_
   refine AOps.nil (k _ ?_)
   refine AWp.ret ?_
   cases h; exact rt
end Go.Pv.Tryd

namespace Go.Pv.Tryd
open Go.Proofs Go.Pv
theorem m_cocketref01_whole_ok (neg1 : Bool) (d1 : (List Int)) (r : Big) (h : m_cocketref01_whole neg1 d1 = some r) : PureFn Tryd.prog G 84 [.d (.bool neg1), .d (.imm 1 (lenc (PD.int .i64) d1))] (.d (.agg [(.bool r.Neg), (.imm 1 (lenc (PD.int .i64) r.D))])) := by
 unfold m_cocketref01_whole at h
 refine pf Tryd.func84 Tryd.ntmps84 ?_
 refine sg fun K k => ?_
 refine oo ?_
 refine AOps.nil (k _ ?_)
 refine sg fun K k => ?_
 refine oo ?_
 obtain ⟨r1, hx_1, h⟩ := bind_some h
 refine cl (m_cocketref01_trim_ok d1 _ hx_1) ?_
 refine oo ?_
 refine AOps.nil (k _ ?_)
 refine sg fun K k => ?_
 iterate 2 refine oo ?_
 refine ct 4 [4, 5] [1000] (fun  t => (13, .d (.bool (neg1 && (decide (0 < (r1.length : Int)))))) :: t) ?_ ?_
 ·rcases bt neg1 with hg_3 | hg_3
  ·rw [hg_3]
   iterate 4 refine oo ?_
   refine AOps.nil ?_
   exact sb
  ·rw [hg_3]
   iterate 4 refine oo ?_
   refine AOps.nil ?_
   exact sb
 iterate 3 refine oo ?_
 refine AOps.nil (k _ ?_)
 refine AWp.ret ?_
 cases h; exact rt
end Go.Pv.Tryd

namespace Go.Pv.Tryd
open Go.Proofs Go.Pv
theorem m_cocketref01_Of_ok (n1 : Int) (r : Big) (h : m_cocketref01_Of n1 = some r) : PureFn Tryd.prog G 73 [.d (.int .i64 n1)] (.d (.agg [(.bool r.Neg), (.imm 1 (lenc (PD.int .i64) r.D))])) := by
 unfold m_cocketref01_Of at h
 refine pf Tryd.func73 Tryd.ntmps73 ?_
 refine sg fun K k => ?_
 refine oo ?_
 refine AOps.nil (k _ ?_)
 refine sg fun K k => ?_
 refine oo ?_
 refine AOps.nil (k _ ?_)
 refine AWp.sub (Sub.void 3 3 1 1001 (by rfl) (by rfl) (by decide) (by decide)) ?_
 simp only [eput, hput, reduceCtorEq, ↓reduceIte, Nat.reduceAdd, Nat.reduceMul, Nat.reduceLT, Nat.reduceLeDiff, Nat.reduceEqDiff, Nat.reduceBEq, Int.reduceToNat]
 refine sg fun K k => ?_
 iterate 3 refine oo ?_
 refine AOps.nil (k _ ?_)
 refine jn (α := (List Int)) [2, 4] [1000] (fun i t => (3, .slc 1001 0 i.length) :: t) (fun i t => (1001, ⟨3, 1, dl (lenc (PD.int .i64) i)⟩) :: t) h ?_ ?_
 ·intro _ hj_2
  refine AWp.block ?_
  obtain ⟨x_7, hl_4, h2_5⟩ := bind_some hj_2
  refine lp (S := (Int × (List Int))) [2, 4] [1000] (fun i t => (0, .d (.int .i64 i.1)) :: (3, .slc 1001 0 i.2.length) :: t) (fun i t => (1001, ⟨3, 1, dl (lenc (PD.int .i64) i.2)⟩) :: t) hl_4 ?_ ?_; exact sb; clear hl_4
  rintro ⟨n2, L2⟩ _ hb_6; unfold m_cocketref01_Of_l1 at hb_6; try dsimp only at hb_6
  try dsimp only
  refine AWp.seq fun _ K_9 => ?_
  refine sg fun K k => ?_
  iterate 2 refine oo ?_
  refine AOps.nil (k _ ?_)
  refine cd hb_6 (fun hb_6 => ?_) (fun hb_6 => ?_)
  ·refine AWp.skip ?_
   refine K_9 _ ?_
   refine AWp.block ?_
   refine sg fun K k => ?_
   iterate 3 refine oo ?_
   refine AOps.nil (k _ ?_)
   refine jn (α := Int) [0, 2, 3, 4] [1000, 1001] (fun i t => (5, .d (.int .i64 i)) :: t) (fun i t => t) hb_6 ?_ ?_
   ·intro _ hj_12
    refine sg fun K k => ?_
    iterate 2 refine oo ?_
    refine AOps.nil (k _ ?_)
    refine cd hj_12 (fun hj_12 => ?_) (fun hj_12 => ?_)
    ·refine AWp.reg ?_
     iterate 3 refine oo ?_
     refine AOps.nil ?_
     cases hj_12; exact sb
    ·refine AWp.skip ?_
     cases hj_12; exact sb
   ·rintro r1 hb_6; dsimp only at hb_6 ⊢
    refine sg fun K k => ?_
    iterate 2 refine oo ?_
    refine ol ?_
    obtain ⟨hg_14, hb_6⟩ := guardO_some hb_6
    iterate 2 refine oo ?_
    refine AOps.nil (k _ ?_)
    refine AWp.reg ?_
    iterate 3 refine oo ?_
    refine AOps.nil ?_
    exact ln hb_6 sb
  ·refine AWp.exit ?_
   refine lx hb_6 fun hx => ?_; cases hx; try dsimp only at h2_5
   cases h2_5; exact sb
 ·rintro L1 h; dsimp only at h ⊢
  refine sg fun K k => ?_
  iterate 2 refine oo ?_
  refine AOps.sub (τ := ⟨[(2, .ptr 1000 0 0), (22, .d (.bool (decide (n1 < 0)))), (23, .d (.imm 1 (lenc (PD.int .i64) L1)))], [(1000, ⟨57, 2, [.d (.agg [(.bool false), .nilslice])]⟩)], [], none⟩) sc ?_
  obtain ⟨r2, hx_15, h⟩ := bind_some h
  refine cl (m_cocketref01_whole_ok (decide (n1 < 0)) L1 _ hx_15) ?_
  refine oo ?_
  refine AOps.nil (k _ ?_)
  refine AWp.ret ?_
  cases h; exact rt
end Go.Pv.Tryd

namespace Go.Pv.Tryd
open Go.Proofs Go.Pv
theorem m_cocketref01_Neg_ok (a1 : Big) (r : Big) (h : m_cocketref01_Neg a1 = some r) : PureFn Tryd.prog G 86 [.d (.agg [(.bool a1.Neg), (.imm 1 (lenc (PD.int .i64) a1.D))])] (.d (.agg [(.bool r.Neg), (.imm 1 (lenc (PD.int .i64) r.D))])) := by
 unfold m_cocketref01_Neg at h
 refine pf Tryd.func86 Tryd.ntmps86 ?_
 refine sg fun K k => ?_
 iterate 2 refine oo ?_
 refine AOps.nil (k _ ?_)
 refine sg fun K k => ?_
 iterate 5 refine oo ?_
 obtain ⟨r1, hx_1, h⟩ := bind_some h
 refine cl (m_cocketref01_whole_ok (!a1.Neg) a1.D _ hx_1) ?_
 refine oo ?_
 refine AOps.nil (k _ ?_)
 refine AWp.ret ?_
 cases h; exact rt
end Go.Pv.Tryd

namespace Go.Pv.Tryd
open Go.Proofs Go.Pv
theorem m_cocketref01_mulD_ok (a1 : (List Int)) (b1 : (List Int)) (r : (List Int)) (h : m_cocketref01_mulD a1 b1 = some r) : PureFn Tryd.prog G 85 [.d (.imm 1 (lenc (PD.int .i64) a1)), .d (.imm 1 (lenc (PD.int .i64) b1))] (.d (.imm 1 (lenc (PD.int .i64) r))) := by
 unfold m_cocketref01_mulD at h
 refine pf Tryd.func85 Tryd.ntmps85 ?_
 refine sg fun K k => ?_
 refine oo ?_
 refine AOps.nil (k _ ?_)
 refine sg fun K k => ?_
 obtain ⟨hg_1, h⟩ := guardO_some h
 iterate 7 refine oo ?_
 refine AOps.nil (k _ ?_)
 refine jn (α := (List Int)) [] [] (fun i t => (5, .slc 1000 0 i.length) :: t) (fun i t => (1000, ⟨3, 1, dl (lenc (PD.int .i64) i)⟩) :: t) h ?_ ?_
 ·intro _ hj_3
  refine sg fun K k => ?_
  refine oo ?_
  refine AOps.nil (k _ ?_)
  refine AWp.block ?_
  obtain ⟨x_8, hl_5, h2_6⟩ := bind_some hj_3
  refine lp (S := (Int × (List Int))) [0, 1] [] (fun i t => (5, .slc 1000 0 i.2.length) :: (6, .d (.int .i64 i.1)) :: t) (fun i t => (1000, ⟨3, 1, dl (lenc (PD.int .i64) i.2)⟩) :: t) hl_5 ?_ ?_; exact sb; clear hl_5
  rintro ⟨i1, L2⟩ _ hb_7; unfold m_cocketref01_mulD_l1 at hb_7; try dsimp only at hb_7
  try dsimp only
  refine AWp.seq fun _ K_10 => ?_
  refine sg fun K k => ?_
  iterate 4 refine oo ?_
  refine AOps.nil (k _ ?_)
  refine cd hb_7 (fun hb_7 => ?_) (fun hb_7 => ?_)
  ·refine AWp.skip ?_
   refine K_10 _ ?_
   refine jn (α := (List Int)) [0, 1, 6] [] (fun i t => (5, .slc 1000 0 i.length) :: t) (fun i t => (1000, ⟨3, 1, dl (lenc (PD.int .i64) i)⟩) :: t) hb_7 ?_ ?_
   ·intro _ hj_13
    refine AWp.block ?_
    refine sg fun K k => ?_
    refine oo ?_
    refine AOps.nil (k _ ?_)
    refine jn (α := (Int × (List Int))) [0, 1, 6] [] (fun i t => (5, .slc 1000 0 i.2.length) :: (7, .d (.int .i64 i.1)) :: t) (fun i t => (1000, ⟨3, 1, dl (lenc (PD.int .i64) i.2)⟩) :: t) hj_13 ?_ ?_
    ·intro _ hj_15
     refine sg fun K k => ?_
     refine oo ?_
     refine AOps.nil (k _ ?_)
     refine AWp.block ?_
     obtain ⟨x_20, hl_17, h2_18⟩ := bind_some hj_15
     refine lp (S := (Int × Int × (List Int))) [0, 1, 6] [] (fun i t => (5, .slc 1000 0 i.2.2.length) :: (7, .d (.int .i64 i.1)) :: (8, .d (.int .i64 i.2.1)) :: t) (fun i t => (1000, ⟨3, 1, dl (lenc (PD.int .i64) i.2.2)⟩) :: t) hl_17 ?_ ?_; exact sb; clear hl_17
     rintro ⟨carry2, k1, L5⟩ _ hb_19; unfold m_cocketref01_mulD_l2 at hb_19; try dsimp only at hb_19
     try dsimp only
     refine AWp.seq fun _ K_22 => ?_
     refine sg fun K k => ?_
     iterate 4 refine oo ?_
     refine AOps.nil (k _ ?_)
     refine cd hb_19 (fun hb_19 => ?_) (fun hb_19 => ?_)
     ·refine AWp.skip ?_
      refine K_22 _ ?_
      refine AWp.seq fun _ K_24 => ?_
      refine AWp.block ?_
      refine sd mo fun K k => ?_
      obtain ⟨e1, ⟨f_25, f_26, f_27, f_28⟩, hb_19⟩ := idx_bind hb_19
      iterate 5 refine dd ?_
      refine dd ?_ (by intro K k; simp (disch := omega) only [go_sem, f_27, ↓reduceIte]; exact k)
      obtain ⟨e2, ⟨f_29, f_30, f_31, f_32⟩, hb_19⟩ := idx_bind hb_19
      iterate 3 refine dd ?_
      refine dd ?_ (by intro K k; simp (disch := omega) only [go_sem, f_31, ↓reduceIte]; exact k)
      obtain ⟨e3, ⟨f_33, f_34, f_35, f_36⟩, hb_19⟩ := idx_bind hb_19
      iterate 3 refine dd ?_
      refine dd ?_ (by intro K k; simp (disch := omega) only [go_sem, f_35, ↓reduceIte]; exact k)
      iterate 5 refine dd ?_
      refine DOps.nil (by kernel_rfl) (k _ ?_)
      refine sg fun K k => ?_
      obtain ⟨e4, ⟨f_37, f_38, f_39, f_40⟩, hb_19⟩ := idx_bind hb_19
      iterate 7 refine oo ?_
      refine oo ?_ (by intro K k; simp (disch := omega) only [go_sem, f_39, ↓reduceIte]; exact k)
      refine AOps.nil (k _ ?_)
      refine AWp.reg ?_
      iterate 3 refine oo ?_
      refine AOps.nil ?_
      refine K_24 _ ?_
      refine AWp.reg ?_
      iterate 3 refine oo ?_
      refine AOps.nil ?_
      exact ln hb_19 sb
     ·refine AWp.exit ?_
      refine lx hb_19 fun hx => ?_; cases hx; try dsimp only at h2_18
      cases h2_18; exact sb
    ·rintro ⟨carry1, L4⟩ hj_13; dsimp only at hj_13 ⊢
     refine AWp.reg ?_
     obtain ⟨e5, ⟨f_41, f_42, f_43, f_44⟩, hj_13⟩ := idx_bind hj_13
     try simp only [Int.toNat_natCast] at f_43 f_44
     iterate 7 refine oo ?_
     refine oo ?_ (by intro K k; simp (disch := omega) only [go_sem, f_43, ↓reduceIte]; exact k)
     refine AOps.nil ?_
     cases hj_13; exact sb
   ·rintro L3 hb_7; dsimp only at hb_7 ⊢
    refine AWp.reg ?_
    iterate 3 refine oo ?_
    refine AOps.nil ?_
    exact ln hb_7 sb
  ·refine AWp.exit ?_
   refine lx hb_7 fun hx => ?_; cases hx; try dsimp only at h2_6
   cases h2_6; exact sb
 ·rintro L1 h; dsimp only at h ⊢
  refine sg fun K k => ?_
  refine oo ?_
  refine AOps.sub (τ := ⟨[(62, .d (.imm 1 (lenc (PD.int .i64) L1)))], [], [], none⟩) sc ?_
  obtain ⟨r1, hx_45, h⟩ := bind_some h
  refine cl (m_cocketref01_trim_ok L1 _ hx_45) ?_
  refine oo ?_
  refine AOps.nil (k _ ?_)
  refine AWp.ret ?_
  cases h; exact rt
end Go.Pv.Tryd

namespace Go.Pv.Tryd
open Go.Proofs Go.Pv
theorem m_cocketref01_cmpD_ok (a1 : (List Int)) (b1 : (List Int)) (r : Int) (h : m_cocketref01_cmpD a1 b1 = some r) : PureFn Tryd.prog G 83 [.d (.imm 1 (lenc (PD.int .i64) a1)), .d (.imm 1 (lenc (PD.int .i64) b1))] (.d (.int .i64 r)) := by
 unfold m_cocketref01_cmpD at h
 refine pf Tryd.func83 Tryd.ntmps83 ?_
 refine sg fun K k => ?_
 refine oo ?_
 refine AOps.nil (k _ ?_)
 refine AWp.seq fun _ K_1 => ?_
 refine sg fun K k => ?_
 iterate 5 refine oo ?_
 refine AOps.nil (k _ ?_)
 refine cd h (fun h => ?_) (fun h => ?_)
 ·refine sg fun K k => ?_
  refine oo ?_
  refine AOps.nil (k _ ?_)
  refine AWp.ret ?_
  cases h; exact rt
 ·refine AWp.skip ?_
  refine K_1 _ ?_
  refine AWp.seq fun _ K_3 => ?_
  refine sg fun K k => ?_
  iterate 5 refine oo ?_
  refine AOps.nil (k _ ?_)
  refine cd h (fun h => ?_) (fun h => ?_)
  ·refine sg fun K k => ?_
   refine oo ?_
   refine AOps.nil (k _ ?_)
   refine AWp.ret ?_
   cases h; exact rt
  ·refine AWp.skip ?_
   refine K_3 _ ?_
   refine jm (ι := Unit) [] [] (fun i t => t) (fun i t => t) .inl h ?_ ?_
   ·intro _ hj_6 h
    refine sg fun K k => ?_
    iterate 4 refine oo ?_
    refine AOps.nil (k _ ?_)
    refine AWp.block ?_
    obtain ⟨x_11, hl_8, h2_9⟩ := bind_some hj_6
    refine lp (S := Int) [0, 1] [] (fun i t => (5, .d (.int .i64 i)) :: t) (fun i t => t) hl_8 ?_ ?_; exact sb; clear hl_8
    rintro i1 _ hb_10; unfold m_cocketref01_cmpD_l1 at hb_10; try dsimp only at hb_10
    try dsimp only
    refine AWp.seq fun _ K_13 => ?_
    refine sg fun K k => ?_
    iterate 2 refine oo ?_
    refine AOps.nil (k _ ?_)
    refine cd hb_10 (fun hb_10 => ?_) (fun hb_10 => ?_)
    ·refine AWp.skip ?_
     refine K_13 _ ?_
     refine AWp.seq fun _ K_15 => ?_
     refine AWp.block ?_
     refine AWp.seq fun _ K_16 => ?_
     refine sd mo fun K k => ?_
     obtain ⟨e1, ⟨f_17, f_18, f_19, f_20⟩, hb_10⟩ := idx_bind hb_10
     iterate 3 refine dd ?_
     refine dd ?_ (by intro K k; simp (disch := omega) only [go_sem, f_19, ↓reduceIte]; exact k)
     obtain ⟨e2, ⟨f_21, f_22, f_23, f_24⟩, hb_10⟩ := idx_bind hb_10
     iterate 3 refine dd ?_
     refine dd ?_ (by intro K k; simp (disch := omega) only [go_sem, f_23, ↓reduceIte]; exact k)
     refine dd ?_
     refine DOps.nil (by kernel_rfl) (k _ ?_)
     refine cd hb_10 (fun hb_10 => ?_) (fun hb_10 => ?_)
     ·refine sg fun K k => ?_
      refine oo ?_
      refine AOps.nil (k _ ?_)
      refine AWp.ret ?_
      refine lx hb_10 fun hx => ?_; cases hx; try dsimp only at h2_9
      cases h2_9; try dsimp only at h
      cases h; exact rt
     ·refine AWp.skip ?_
      refine K_16 _ ?_
      refine sd mo fun K k => ?_
      obtain ⟨e3, ⟨f_26, f_27, f_28, f_29⟩, hb_10⟩ := idx_bind hb_10
      iterate 3 refine dd ?_
      refine dd ?_ (by intro K k; simp (disch := omega) only [go_sem, f_28, ↓reduceIte]; exact k)
      obtain ⟨e4, ⟨f_30, f_31, f_32, f_33⟩, hb_10⟩ := idx_bind hb_10
      iterate 3 refine dd ?_
      refine dd ?_ (by intro K k; simp (disch := omega) only [go_sem, f_32, ↓reduceIte]; exact k)
      refine dd ?_
      refine DOps.nil (by kernel_rfl) (k _ ?_)
      refine cd hb_10 (fun hb_10 => ?_) (fun hb_10 => ?_)
      ·refine sg fun K k => ?_
       refine oo ?_
       refine AOps.nil (k _ ?_)
       refine AWp.ret ?_
       refine lx hb_10 fun hx => ?_; cases hx; try dsimp only at h2_9
       cases h2_9; try dsimp only at h
       cases h; exact rt
      ·refine AWp.skip ?_
       refine K_15 _ ?_
       refine AWp.reg ?_
       iterate 3 refine oo ?_
       refine AOps.nil ?_
       exact ln hb_10 sb
    ·refine AWp.exit ?_
     refine lx hb_10 fun hx => ?_; cases hx; try dsimp only at h2_9
     exact ln h2_9 sb
   ·rintro _ h; dsimp only at h ⊢
    refine sg fun K k => ?_
    refine oo ?_
    refine AOps.nil (k _ ?_)
    refine AWp.ret ?_
    cases h; exact rt
end Go.Pv.Tryd

namespace Go.Pv.Tryd
open Go.Proofs Go.Pv
theorem m_cocketref01_subD_ok (a1 : (List Int)) (b1 : (List Int)) (r : (List Int)) (h : m_cocketref01_subD a1 b1 = some r) : PureFn Tryd.prog G 101 [.d (.imm 1 (lenc (PD.int .i64) a1)), .d (.imm 1 (lenc (PD.int .i64) b1))] (.d (.imm 1 (lenc (PD.int .i64) r))) := by
 unfold m_cocketref01_subD at h
 refine pf Tryd.func101 Tryd.ntmps101 ?_
 refine sg fun K k => ?_
 refine oo ?_
 refine AOps.nil (k _ ?_)
 refine sg fun K k => ?_
 refine oo ?_
 refine AOps.nil (k _ ?_)
 refine AWp.sub (Sub.void 5 3 1 1000 (by rfl) (by rfl) (by decide) (by decide)) ?_
 simp only [eput, hput, reduceCtorEq, ↓reduceIte, Nat.reduceAdd, Nat.reduceMul, Nat.reduceLT, Nat.reduceLeDiff, Nat.reduceEqDiff, Nat.reduceBEq, Int.reduceToNat]
 refine sg fun K k => ?_
 refine oo ?_
 refine AOps.nil (k _ ?_)
 refine jn (α := (List Int)) [] [] (fun i t => (5, .slc 1000 0 i.length) :: t) (fun i t => (1000, ⟨3, 1, dl (lenc (PD.int .i64) i)⟩) :: t) h ?_ ?_
 ·intro _ hj_2
  refine sg fun K k => ?_
  refine oo ?_
  refine AOps.nil (k _ ?_)
  refine AWp.block ?_
  obtain ⟨x_7, hl_4, h2_5⟩ := bind_some hj_2
  refine lp (S := (Int × Int × (List Int))) [0, 1] [] (fun i t => (5, .slc 1000 0 i.2.2.length) :: (6, .d (.int .i64 i.1)) :: (7, .d (.int .i64 i.2.1)) :: t) (fun i t => (1000, ⟨3, 1, dl (lenc (PD.int .i64) i.2.2)⟩) :: t) hl_4 ?_ ?_; exact sb; clear hl_4
  rintro ⟨borrow1, i1, L2⟩ _ hb_6; unfold m_cocketref01_subD_l1 at hb_6; try dsimp only at hb_6
  try dsimp only
  refine AWp.seq fun _ K_9 => ?_
  refine sg fun K k => ?_
  iterate 4 refine oo ?_
  refine AOps.nil (k _ ?_)
  refine cd hb_6 (fun hb_6 => ?_) (fun hb_6 => ?_)
  ·refine AWp.skip ?_
   refine K_9 _ ?_
   refine AWp.seq fun _ K_11 => ?_
   refine AWp.block ?_
   refine sg fun K k => ?_
   obtain ⟨e1, ⟨f_12, f_13, f_14, f_15⟩, hb_6⟩ := idx_bind hb_6
   iterate 3 refine oo ?_
   refine oo ?_ (by intro K k; simp (disch := omega) only [go_sem, f_14, ↓reduceIte]; exact k)
   iterate 3 refine oo ?_
   refine AOps.nil (k _ ?_)
   refine jn (α := Int) [0, 1, 5, 7] [1000] (fun i t => (8, .d (.int .i64 i)) :: t) (fun i t => t) hb_6 ?_ ?_
   ·intro _ hj_17
    refine sg fun K k => ?_
    iterate 4 refine oo ?_
    refine AOps.nil (k _ ?_)
    refine cd hj_17 (fun hj_17 => ?_) (fun hj_17 => ?_)
    ·refine AWp.reg ?_
     obtain ⟨e2, ⟨f_19, f_20, f_21, f_22⟩, hj_17⟩ := idx_bind hj_17
     iterate 4 refine oo ?_
     refine oo ?_ (by intro K k; simp (disch := omega) only [go_sem, f_21, ↓reduceIte]; exact k)
     iterate 2 refine oo ?_
     refine AOps.nil ?_
     cases hj_17; exact sb
    ·refine AWp.skip ?_
     cases hj_17; exact sb
   ·rintro s1 hb_6; dsimp only at hb_6 ⊢
    refine sg fun K k => ?_
    refine oo ?_
    refine AOps.nil (k _ ?_)
    refine jn (α := (Int × Int)) [0, 1, 5, 7] [1000] (fun i t => (6, .d (.int .i64 i.1)) :: (8, .d (.int .i64 i.2)) :: t) (fun i t => t) hb_6 ?_ ?_
    ·intro _ hj_24
     refine sg fun K k => ?_
     iterate 2 refine oo ?_
     refine AOps.nil (k _ ?_)
     refine cd hj_24 (fun hj_24 => ?_) (fun hj_24 => ?_)
     ·refine sg fun K k => ?_
      iterate 3 refine oo ?_
      refine AOps.nil (k _ ?_)
      refine AWp.reg ?_
      refine oo ?_
      refine AOps.nil ?_
      cases hj_24; exact sb
     ·refine AWp.skip ?_
      cases hj_24; exact sb
    ·rintro ⟨borrow2, s2⟩ hb_6; dsimp only at hb_6 ⊢
     refine AWp.reg ?_
     iterate 2 refine oo ?_
     refine ol ?_
     obtain ⟨hg_26, hb_6⟩ := guardO_some hb_6
     iterate 2 refine oo ?_
     refine AOps.nil ?_
     refine K_11 _ ?_
     refine AWp.reg ?_
     iterate 3 refine oo ?_
     refine AOps.nil ?_
     exact ln hb_6 sb
  ·refine AWp.exit ?_
   refine lx hb_6 fun hx => ?_; cases hx; try dsimp only at h2_5
   cases h2_5; exact sb
 ·rintro L1 h; dsimp only at h ⊢
  refine sg fun K k => ?_
  refine oo ?_
  refine AOps.sub (τ := ⟨[(39, .d (.imm 1 (lenc (PD.int .i64) L1)))], [], [], none⟩) sc ?_
  obtain ⟨r1, hx_27, h⟩ := bind_some h
  refine cl (m_cocketref01_trim_ok L1 _ hx_27) ?_
  refine oo ?_
  refine AOps.nil (k _ ?_)
  refine AWp.ret ?_
  cases h; exact rt
end Go.Pv.Tryd

namespace Go.Pv.Tryd
open Go.Proofs Go.Pv
theorem m_cocketref01_divD_ok (a1 : (List Int)) (b1 : (List Int)) (r : ((List Int) × (List Int))) (h : m_cocketref01_divD a1 b1 = some r) : PureFn Tryd.prog G 99 [.d (.imm 1 (lenc (PD.int .i64) a1)), .d (.imm 1 (lenc (PD.int .i64) b1))] (.tuple [.d (.imm 1 (lenc (PD.int .i64) r.1)), .d (.imm 1 (lenc (PD.int .i64) r.2))]) := by
 unfold m_cocketref01_divD at h
 refine pf Tryd.func99 Tryd.ntmps99 ?_
 refine sg fun K k => ?_
 iterate 2 refine oo ?_
 refine AOps.nil (k _ ?_)
 refine AWp.seq fun _ K_1 => ?_
 refine sg fun K k => ?_
 iterate 3 refine oo ?_
 refine AOps.nil (k _ ?_)
 refine cd h (fun h => ?_) (fun h => ?_)
 ·refine sg fun K k => ?_
  iterate 2 refine oo ?_
  refine AOps.nil (k _ ?_)
  refine AWp.ret ?_
  cases h; exact rt
 ·refine AWp.skip ?_
  refine K_1 _ ?_
  refine sg fun K k => ?_
  obtain ⟨hg_3, h⟩ := guardO_some h
  iterate 4 refine oo ?_
  refine AOps.nil (k _ ?_)
  refine sg fun K k => ?_
  refine oo ?_
  refine AOps.nil (k _ ?_)
  refine jn (α := ((List Int) × (List Int))) [] [] (fun i t => (6, .slc 1000 0 i.2.length) :: (7, .d (.imm 1 (lenc (PD.int .i64) i.1))) :: t) (fun i t => (1000, ⟨3, 1, dl (lenc (PD.int .i64) i.2)⟩) :: t) h ?_ ?_
  ·intro _ hj_5
   refine sg fun K k => ?_
   iterate 4 refine oo ?_
   refine AOps.nil (k _ ?_)
   refine AWp.block ?_
   obtain ⟨x_10, hl_7, h2_8⟩ := bind_some hj_5
   refine lp (S := ((List Int) × Int × (List Int))) [0, 1] [] (fun i t => (6, .slc 1000 0 i.2.2.length) :: (7, .d (.imm 1 (lenc (PD.int .i64) i.1))) :: (8, .d (.int .i64 i.2.1)) :: t) (fun i t => (1000, ⟨3, 1, dl (lenc (PD.int .i64) i.2.2)⟩) :: t) hl_7 ?_ ?_; exact sc; clear hl_7
   rintro ⟨rem2, i1, L2⟩ _ hb_9; unfold m_cocketref01_divD_l1 at hb_9; try dsimp only at hb_9
   try dsimp only
   refine AWp.seq fun _ K_12 => ?_
   refine sg fun K k => ?_
   iterate 2 refine oo ?_
   refine AOps.nil (k _ ?_)
   refine cd hb_9 (fun hb_9 => ?_) (fun hb_9 => ?_)
   ·refine AWp.skip ?_
    refine K_12 _ ?_
    refine jn (α := ((List Int) × (List Int))) [0, 1, 8] [] (fun i t => (6, .slc 1000 0 i.2.length) :: (7, .d (.imm 1 (lenc (PD.int .i64) i.1))) :: t) (fun i t => (1000, ⟨3, 1, dl (lenc (PD.int .i64) i.2)⟩) :: t) hb_9 ?_ ?_
    ·intro _ hj_15
     refine AWp.block ?_
     refine sg fun K k => ?_
     obtain ⟨e1, ⟨f_16, f_17, f_18, f_19⟩, hj_15⟩ := idx_bind hj_15
     iterate 3 refine oo ?_
     refine oo ?_ (by intro K k; simp (disch := omega) only [go_sem, f_18, ↓reduceIte]; exact k)
     iterate 2 refine oo ?_
     refine AOps.nil (k _ ?_)
     refine sg fun K k => ?_
     obtain ⟨hg_20, hj_15⟩ := guardO_some hj_15
     iterate 3 refine oo ?_
     refine AOps.sub (τ := ⟨[(0, .d (.imm 1 (lenc (PD.int .i64) a1))), (1, .d (.imm 1 (lenc (PD.int .i64) b1))), (6, .slc 1000 0 L2.length), (7, .d (.imm 1 (lenc (PD.int .i64) rem2))), (8, .d (.int .i64 i1)), (34, .d (.imm 1 (lenc (PD.int .i64) ([e1] ++ rem2))))], [(1000, ⟨3, 1, dl (lenc (PD.int .i64) L2)⟩)], [], none⟩) sc ?_
     obtain ⟨r1, hx_21, hj_15⟩ := bind_some hj_15
     refine cl (m_cocketref01_trim_ok ([e1] ++ rem2) _ hx_21) ?_
     refine oo ?_
     refine AOps.nil (k _ ?_)
     refine sg fun K k => ?_
     iterate 2 refine oo ?_
     refine AOps.nil (k _ ?_)
     refine jn (α := Int) [0, 1, 6, 7, 8] [1000] (fun i t => (10, .d (.int .i64 i)) :: t) (fun i t => t) hj_15 ?_ ?_
     ·intro _ hj_23
      refine AWp.block ?_
      obtain ⟨x_28, hl_25, h2_26⟩ := bind_some hj_23
      refine lp (S := (Int × Int)) [0, 1, 6, 7, 8] [1000] (fun i t => (10, .d (.int .i64 i.1)) :: (11, .d (.int .i64 i.2)) :: t) (fun i t => t) hl_25 ?_ ?_; exact sb; clear hl_25
      rintro ⟨lo2, hi1⟩ _ hb_27; unfold m_cocketref01_divD_l2 at hb_27; try dsimp only at hb_27
      try dsimp only
      refine AWp.seq fun _ K_30 => ?_
      refine sg fun K k => ?_
      iterate 3 refine oo ?_
      refine AOps.nil (k _ ?_)
      refine cd hb_27 (fun hb_27 => ?_) (fun hb_27 => ?_)
      ·refine AWp.skip ?_
       refine K_30 _ ?_
       refine AWp.block ?_
       refine sg fun K k => ?_
       iterate 6 refine oo ?_
       refine AOps.nil (k _ ?_)
       refine sg fun K k => ?_
       iterate 2 refine oo ?_
       refine ol ?_
       obtain ⟨r2, hx_32, hb_27⟩ := bind_some hb_27
       refine cl (m_cocketref01_trim_ok [(IntKind.i64.wrap ((IntKind.i64.wrap ((IntKind.i64.wrap (lo2 + hi1)) + 1)).tdiv 2))] _ hx_32) ?_
       obtain ⟨r3, hx_33, hb_27⟩ := bind_some hb_27
       refine cl (m_cocketref01_mulD_ok b1 r2 _ hx_33) ?_
       refine oo ?_
       refine AOps.nil (k _ ?_)
       refine sg fun K k => ?_
       iterate 2 refine oo ?_
       obtain ⟨r4, hx_34, hb_27⟩ := bind_some hb_27
       refine cl (m_cocketref01_cmpD_ok r3 r1 _ hx_34) ?_
       refine oo ?_
       refine AOps.nil (k _ ?_)
       refine cd hb_27 (fun hb_27 => ?_) (fun hb_27 => ?_)
       ·refine AWp.reg ?_
        iterate 2 refine oo ?_
        refine AOps.nil ?_
        exact ln hb_27 sb
       ·refine AWp.reg ?_
        iterate 3 refine oo ?_
        refine AOps.nil ?_
        exact ln hb_27 sb
      ·refine AWp.exit ?_
       refine lx hb_27 fun hx => ?_; cases hx; try dsimp only at h2_26
       cases h2_26; exact sb
     ·rintro lo1 hj_15; dsimp only at hj_15 ⊢
      refine sg fun K k => ?_
      obtain ⟨e2, ⟨f_36, f_37, f_38, f_39⟩, hj_15⟩ := idx_bind hj_15
      iterate 4 refine oo ?_
      refine oo ?_ (by intro K k; simp (disch := omega) only [go_sem, f_38, ↓reduceIte]; exact k)
      refine AOps.nil (k _ ?_)
      refine AWp.reg ?_
      iterate 3 refine oo ?_
      refine ol ?_
      obtain ⟨r5, hx_40, hj_15⟩ := bind_some hj_15
      refine cl (m_cocketref01_trim_ok [lo1] _ hx_40) ?_
      obtain ⟨r6, hx_41, hj_15⟩ := bind_some hj_15
      refine cl (m_cocketref01_mulD_ok b1 r5 _ hx_41) ?_
      obtain ⟨r7, hx_42, hj_15⟩ := bind_some hj_15
      refine cl (m_cocketref01_subD_ok r1 r6 _ hx_42) ?_
      refine oo ?_
      refine AOps.nil ?_
      cases hj_15; exact sb
    ·rintro ⟨rem3, L3⟩ hb_9; dsimp only at hb_9 ⊢
     refine AWp.reg ?_
     iterate 3 refine oo ?_
     refine AOps.nil ?_
     exact ln hb_9 sb
   ·refine AWp.exit ?_
    refine lx hb_9 fun hx => ?_; cases hx; try dsimp only at h2_8
    cases h2_8; exact sb
  ·rintro ⟨rem1, L1⟩ h; dsimp only at h ⊢
   refine sg fun K k => ?_
   refine oo ?_
   refine AOps.sub (τ := ⟨[(7, .d (.imm 1 (lenc (PD.int .i64) rem1))), (67, .d (.imm 1 (lenc (PD.int .i64) L1)))], [], [], none⟩) sc ?_
   obtain ⟨r8, hx_43, h⟩ := bind_some h
   refine cl (m_cocketref01_trim_ok L1 _ hx_43) ?_
   iterate 3 refine oo ?_
   refine AOps.nil (k _ ?_)
   refine AWp.ret ?_
   cases h; exact rt
end Go.Pv.Tryd

namespace Go.Pv.Tryd
open Go.Proofs Go.Pv
theorem m_cocketref01_gcdD_ok (a1 : (List Int)) (b1 : (List Int)) (r : (List Int)) (h : m_cocketref01_gcdD a1 b1 = some r) : PureFn Tryd.prog G 87 [.d (.imm 1 (lenc (PD.int .i64) a1)), .d (.imm 1 (lenc (PD.int .i64) b1))] (.d (.imm 1 (lenc (PD.int .i64) r))) := by
 unfold m_cocketref01_gcdD at h
 refine pf Tryd.func87 Tryd.ntmps87 ?_
 refine sg fun K k => ?_
 refine oo ?_
 refine AOps.nil (k _ ?_)
 refine jn (α := (List Int)) [] [] (fun i t => (0, .d (.imm 1 (lenc (PD.int .i64) i))) :: t) (fun i t => t) h ?_ ?_
 ·intro _ hj_2
  refine AWp.block ?_
  obtain ⟨x_7, hl_4, h2_5⟩ := bind_some hj_2
  refine lp (S := ((List Int) × (List Int))) [] [] (fun i t => (0, .d (.imm 1 (lenc (PD.int .i64) i.1))) :: (1, .d (.imm 1 (lenc (PD.int .i64) i.2))) :: t) (fun i t => t) hl_4 ?_ ?_; exact sb; clear hl_4
  rintro ⟨a3, b2⟩ _ hb_6; unfold m_cocketref01_gcdD_l1 at hb_6; try dsimp only at hb_6
  try dsimp only
  refine AWp.seq fun _ K_9 => ?_
  refine sg fun K k => ?_
  iterate 3 refine oo ?_
  refine AOps.nil (k _ ?_)
  refine cd hb_6 (fun hb_6 => ?_) (fun hb_6 => ?_)
  ·refine AWp.skip ?_
   refine K_9 _ ?_
   refine AWp.block ?_
   refine sg fun K k => ?_
   iterate 2 refine oo ?_
   obtain ⟨r1, hx_11, hb_6⟩ := bind_some hb_6
   refine cl (m_cocketref01_divD_ok a3 b2 _ hx_11) ?_
   iterate 5 refine oo ?_
   refine AOps.nil (k _ ?_)
   refine AWp.reg ?_
   iterate 4 refine oo ?_
   refine AOps.nil ?_
   exact ln hb_6 sb
  ·refine AWp.exit ?_
   refine lx hb_6 fun hx => ?_; cases hx; try dsimp only at h2_5
   cases h2_5; exact sb
 ·rintro a2 h; dsimp only at h ⊢
  refine sg fun K k => ?_
  iterate 2 refine oo ?_
  refine AOps.nil (k _ ?_)
  refine AWp.ret ?_
  cases h; exact rt
end Go.Pv.Tryd

namespace Go.Pv.Tryd
open Go.Proofs Go.Pv
theorem m_cocketref01_addD_ok (a1 : (List Int)) (b1 : (List Int)) (r : (List Int)) (h : m_cocketref01_addD a1 b1 = some r) : PureFn Tryd.prog G 100 [.d (.imm 1 (lenc (PD.int .i64) a1)), .d (.imm 1 (lenc (PD.int .i64) b1))] (.d (.imm 1 (lenc (PD.int .i64) r))) := by
 unfold m_cocketref01_addD at h
 refine pf Tryd.func100 Tryd.ntmps100 ?_
 refine sg fun K k => ?_
 refine oo ?_
 refine AOps.nil (k _ ?_)
 refine sg fun K k => ?_
 refine oo ?_
 refine AOps.nil (k _ ?_)
 refine AWp.sub (Sub.void 5 3 1 1000 (by rfl) (by rfl) (by decide) (by decide)) ?_
 simp only [eput, hput, reduceCtorEq, ↓reduceIte, Nat.reduceAdd, Nat.reduceMul, Nat.reduceLT, Nat.reduceLeDiff, Nat.reduceEqDiff, Nat.reduceBEq, Int.reduceToNat]
 refine sg fun K k => ?_
 refine oo ?_
 refine AOps.nil (k _ ?_)
 refine jn (α := (List Int)) [] [] (fun i t => (5, .slc 1000 0 i.length) :: t) (fun i t => (1000, ⟨3, 1, dl (lenc (PD.int .i64) i)⟩) :: t) h ?_ ?_
 ·intro _ hj_2
  refine sg fun K k => ?_
  refine oo ?_
  refine AOps.nil (k _ ?_)
  refine AWp.block ?_
  obtain ⟨x_7, hl_4, h2_5⟩ := bind_some hj_2
  refine lp (S := (Int × Int × (List Int))) [0, 1] [] (fun i t => (5, .slc 1000 0 i.2.2.length) :: (6, .d (.int .i64 i.1)) :: (7, .d (.int .i64 i.2.1)) :: t) (fun i t => (1000, ⟨3, 1, dl (lenc (PD.int .i64) i.2.2)⟩) :: t) hl_4 ?_ ?_; exact sb; clear hl_4
  rintro ⟨carry1, i1, L2⟩ _ hb_6; unfold m_cocketref01_addD_l1 at hb_6; try dsimp only at hb_6
  try dsimp only
  refine AWp.seq fun _ K_9 => ?_
  refine sg fun K k => ?_
  iterate 5 refine oo ?_
  refine ct 5 [0, 1, 5, 6, 7] [1000] (fun  t => (18, .d (.bool ((decide (i1 < (a1.length : Int))) || (decide (i1 < (b1.length : Int)))))) :: t) ?_ ?_
  ·rcases bt (decide (i1 < (a1.length : Int))) with hg_11 | hg_11
   ·rw [hg_11]
    iterate 5 refine oo ?_
    refine AOps.nil ?_
    exact sb
   ·rw [hg_11]
    iterate 5 refine oo ?_
    refine AOps.nil ?_
    exact sb
  refine oo ?_
  refine ct 3 [0, 1, 5, 6, 7] [1000] (fun  t => (22, .d (.bool (((decide (i1 < (a1.length : Int))) || (decide (i1 < (b1.length : Int)))) || (decide (0 < carry1))))) :: t) ?_ ?_
  ·rcases bt ((decide (i1 < (a1.length : Int))) || (decide (i1 < (b1.length : Int)))) with hg_13 | hg_13
   ·rw [hg_13]
    iterate 3 refine oo ?_
    refine AOps.nil ?_
    exact sb
   ·rw [hg_13]
    iterate 3 refine oo ?_
    refine AOps.nil ?_
    exact sb
  refine AOps.nil (k _ ?_)
  refine cd hb_6 (fun hb_6 => ?_) (fun hb_6 => ?_)
  ·refine AWp.skip ?_
   refine K_9 _ ?_
   refine AWp.seq fun _ K_15 => ?_
   refine AWp.block ?_
   refine sg fun K k => ?_
   iterate 2 refine oo ?_
   refine AOps.nil (k _ ?_)
   refine jn (α := Int) [0, 1, 5, 7] [1000] (fun i t => (8, .d (.int .i64 i)) :: t) (fun i t => t) hb_6 ?_ ?_
   ·intro _ hj_17
    refine sg fun K k => ?_
    iterate 4 refine oo ?_
    refine AOps.nil (k _ ?_)
    refine cd hj_17 (fun hj_17 => ?_) (fun hj_17 => ?_)
    ·refine AWp.reg ?_
     obtain ⟨e1, ⟨f_19, f_20, f_21, f_22⟩, hj_17⟩ := idx_bind hj_17
     iterate 4 refine oo ?_
     refine oo ?_ (by intro K k; simp (disch := omega) only [go_sem, f_21, ↓reduceIte]; exact k)
     iterate 2 refine oo ?_
     refine AOps.nil ?_
     cases hj_17; exact sb
    ·refine AWp.skip ?_
     cases hj_17; exact sb
   ·rintro s1 hb_6; dsimp only at hb_6 ⊢
    refine jn (α := Int) [0, 1, 5, 7] [1000] (fun i t => (8, .d (.int .i64 i)) :: t) (fun i t => t) hb_6 ?_ ?_
    ·intro _ hj_24
     refine sg fun K k => ?_
     iterate 4 refine oo ?_
     refine AOps.nil (k _ ?_)
     refine cd hj_24 (fun hj_24 => ?_) (fun hj_24 => ?_)
     ·refine AWp.reg ?_
      obtain ⟨e2, ⟨f_26, f_27, f_28, f_29⟩, hj_24⟩ := idx_bind hj_24
      iterate 4 refine oo ?_
      refine oo ?_ (by intro K k; simp (disch := omega) only [go_sem, f_28, ↓reduceIte]; exact k)
      iterate 2 refine oo ?_
      refine AOps.nil ?_
      cases hj_24; exact sb
     ·refine AWp.skip ?_
      cases hj_24; exact sb
    ·rintro s2 hb_6; dsimp only at hb_6 ⊢
     refine sg fun K k => ?_
     iterate 3 refine oo ?_
     refine ol ?_
     obtain ⟨hg_30, hb_6⟩ := guardO_some hb_6
     iterate 2 refine oo ?_
     refine AOps.nil (k _ ?_)
     refine AWp.reg ?_
     iterate 3 refine oo ?_
     refine AOps.nil ?_
     refine K_15 _ ?_
     refine AWp.reg ?_
     iterate 3 refine oo ?_
     refine AOps.nil ?_
     exact ln hb_6 sb
  ·refine AWp.exit ?_
   refine lx hb_6 fun hx => ?_; cases hx; try dsimp only at h2_5
   cases h2_5; exact sb
 ·rintro L1 h; dsimp only at h ⊢
  refine sg fun K k => ?_
  iterate 2 refine oo ?_
  refine AOps.nil (k _ ?_)
  refine AWp.ret ?_
  cases h; exact rt
end Go.Pv.Tryd

namespace Go.Pv.Tryd
open Go.Proofs Go.Pv
theorem m_cocketref01_Over_ok (a1 : Big) (b1 : Big) (r : (Big × Big)) (h : m_cocketref01_Over a1 b1 = some r) : PureFn Tryd.prog G 88 [.d (.agg [(.bool a1.Neg), (.imm 1 (lenc (PD.int .i64) a1.D))]), .d (.agg [(.bool b1.Neg), (.imm 1 (lenc (PD.int .i64) b1.D))])] (.tuple [.d (.agg [(.bool r.1.Neg), (.imm 1 (lenc (PD.int .i64) r.1.D))]), .d (.agg [(.bool r.2.Neg), (.imm 1 (lenc (PD.int .i64) r.2.D))])]) := by
 unfold m_cocketref01_Over at h
 refine pf Tryd.func88 Tryd.ntmps88 ?_
 refine sg fun K k => ?_
 iterate 4 refine oo ?_
 refine AOps.nil (k _ ?_)
 refine sg fun K k => ?_
 iterate 4 refine oo ?_
 obtain ⟨r1, hx_1, h⟩ := bind_some h
 refine cl (m_cocketref01_divD_ok a1.D b1.D _ hx_1) ?_
 iterate 5 refine oo ?_
 refine AOps.nil (k _ ?_)
 refine AWp.seq fun _ K_2 => ?_
 refine sg fun K k => ?_
 iterate 3 refine oo ?_
 refine AOps.nil (k _ ?_)
 refine cd h (fun h => ?_) (fun h => ?_)
 ·refine sg fun K k => ?_
  refine oo ?_
  obtain ⟨r2, hx_4, h⟩ := bind_some h
  refine cl (m_cocketref01_whole_ok false r1.1 _ hx_4) ?_
  refine oo ?_
  obtain ⟨r3, hx_5, h⟩ := bind_some h
  refine cl (m_cocketref01_whole_ok false r1.2 _ hx_5) ?_
  iterate 2 refine oo ?_
  refine AOps.nil (k _ ?_)
  refine AWp.ret ?_
  cases h; exact rt
 ·refine AWp.skip ?_
  refine K_2 _ ?_
  refine AWp.seq fun _ K_6 => ?_
  refine sg fun K k => ?_
  iterate 3 refine oo ?_
  refine AOps.nil (k _ ?_)
  refine cd h (fun h => ?_) (fun h => ?_)
  ·refine sg fun K k => ?_
   refine oo ?_
   obtain ⟨r4, hx_8, h⟩ := bind_some h
   refine cl (m_cocketref01_whole_ok true r1.1 _ hx_8) ?_
   iterate 3 refine oo ?_
   refine AOps.nil (k _ ?_)
   refine AWp.ret ?_
   cases h; exact rt
  ·refine AWp.skip ?_
   refine K_6 _ ?_
   refine sd mo fun K k => ?_
   refine dd ?_
   refine ddl ?_
   obtain ⟨r5, hx_9, h⟩ := bind_some h
   refine dcl (m_cocketref01_addD_ok r1.1 [1] _ hx_9) ?_
   obtain ⟨r6, hx_10, h⟩ := bind_some h
   refine dcl (m_cocketref01_whole_ok true r5 _ hx_10) ?_
   iterate 3 refine dd ?_
   obtain ⟨r7, hx_11, h⟩ := bind_some h
   refine dcl (m_cocketref01_subD_ok b1.D r1.2 _ hx_11) ?_
   obtain ⟨r8, hx_12, h⟩ := bind_some h
   refine dcl (m_cocketref01_whole_ok false r7 _ hx_12) ?_
   iterate 2 refine dd ?_
   refine DOps.nil (by kernel_rfl) (k _ ?_)
   refine AWp.ret ?_
   cases h; exact rt
end Go.Pv.Tryd

namespace Go.Pv.Tryd
open Go.Proofs Go.Pv
theorem m_cocketref01_lowest_ok (n1 : Big) (d1 : Big) (r : Q) (h : m_cocketref01_lowest n1 d1 = some r) : PureFn Tryd.prog G 72 [.d (.agg [(.bool n1.Neg), (.imm 1 (lenc (PD.int .i64) n1.D))]), .d (.agg [(.bool d1.Neg), (.imm 1 (lenc (PD.int .i64) d1.D))])] (.d (.agg [(.bool r.N.Neg), (.imm 1 (lenc (PD.int .i64) r.N.D)), (.bool r.D.Neg), (.imm 1 (lenc (PD.int .i64) r.D.D))])) := by
 unfold m_cocketref01_lowest at h
 refine pf Tryd.func72 Tryd.ntmps72 ?_
 refine sg fun K k => ?_
 iterate 3 refine oo ?_
 refine AOps.nil (k _ ?_)
 refine jn (α := (Big × Big)) [4] [1002] (fun i t => (2, .ptr 1000 0 0) :: (3, .ptr 1001 0 0) :: t) (fun i t => (1000, ⟨57, 2, [.d (.agg [(.bool i.1.Neg), (.imm 1 (lenc (PD.int .i64) i.1.D))])]⟩) :: (1001, ⟨57, 2, [.d (.agg [(.bool i.2.Neg), (.imm 1 (lenc (PD.int .i64) i.2.D))])]⟩) :: t) h ?_ ?_
 ·intro _ hj_2
  refine sg fun K k => ?_
  iterate 2 refine oo ?_
  refine AOps.nil (k _ ?_)
  refine cd hj_2 (fun hj_2 => ?_) (fun hj_2 => ?_)
  ·refine sg fun K k => ?_
   refine oo ?_
   obtain ⟨r1, hx_4, hj_2⟩ := bind_some hj_2
   refine cl (m_cocketref01_Neg_ok n1 _ hx_4) ?_
   refine oo ?_
   refine AOps.nil (k _ ?_)
   refine AWp.reg ?_
   refine oo ?_
   obtain ⟨r2, hx_5, hj_2⟩ := bind_some hj_2
   refine cl (m_cocketref01_Neg_ok d1 _ hx_5) ?_
   refine oo ?_
   refine AOps.nil ?_
   cases hj_2; exact sb
  ·refine AWp.skip ?_
   cases hj_2; exact sb
 ·rintro ⟨c1, c2⟩ h; dsimp only at h ⊢
  refine sg fun K k => ?_
  iterate 4 refine oo ?_
  obtain ⟨r3, hx_6, h⟩ := bind_some h
  refine cl (m_cocketref01_gcdD_ok c1.D c2.D _ hx_6) ?_
  obtain ⟨r4, hx_7, h⟩ := bind_some h
  refine cl (m_cocketref01_whole_ok false r3 _ hx_7) ?_
  iterate 2 refine oo ?_
  refine AOps.nil (k _ ?_)
  refine sg fun K k => ?_
  iterate 2 refine oo ?_
  obtain ⟨r5, hx_8, h⟩ := bind_some h
  refine cl (m_cocketref01_Over_ok c1 r4 _ hx_8) ?_
  iterate 7 refine oo ?_
  refine AOps.nil (k _ ?_)
  refine sg fun K k => ?_
  iterate 2 refine oo ?_
  obtain ⟨r6, hx_9, h⟩ := bind_some h
  refine cl (m_cocketref01_Over_ok c2 r4 _ hx_9) ?_
  iterate 7 refine oo ?_
  refine AOps.nil (k _ ?_)
  refine sg fun K k => ?_
  iterate 4 refine oo ?_
  refine AOps.nil (k _ ?_)
  refine AWp.ret ?_
  cases h; exact rt
end Go.Pv.Tryd

namespace Go.Pv.Tryd
open Go.Proofs Go.Pv
theorem m_cocketref01_Frac_ok (n1 : Int) (d1 : Int) (r : Q) (h : m_cocketref01_Frac n1 d1 = some r) : PureFn Tryd.prog G 41 [.d (.int .i64 n1), .d (.int .i64 d1)] (.d (.agg [(.bool r.N.Neg), (.imm 1 (lenc (PD.int .i64) r.N.D)), (.bool r.D.Neg), (.imm 1 (lenc (PD.int .i64) r.D.D))])) := by
 unfold m_cocketref01_Frac at h
 refine pf Tryd.func41 Tryd.ntmps41 ?_
 refine sg fun K k => ?_
 refine oo ?_
 refine AOps.nil (k _ ?_)
 refine sg fun K k => ?_
 refine oo ?_
 obtain ⟨r1, hx_1, h⟩ := bind_some h
 refine cl (m_cocketref01_Of_ok n1 _ hx_1) ?_
 refine oo ?_
 obtain ⟨r2, hx_2, h⟩ := bind_some h
 refine cl (m_cocketref01_Of_ok d1 _ hx_2) ?_
 obtain ⟨r3, hx_3, h⟩ := bind_some h
 refine cl (m_cocketref01_lowest_ok r1 r2 _ hx_3) ?_
 refine oo ?_
 refine AOps.nil (k _ ?_)
 refine AWp.ret ?_
 cases h; exact rt
end Go.Pv.Tryd

namespace Go.Pv.Tryd
open Go.Proofs Go.Pv
theorem m_cocketref01_rate_ok (o1 : Offer) (r : Q) (h : m_cocketref01_rate o1 = some r) : PureFn Tryd.prog G 63 [.d (.agg [(.int .i64 o1.From), (.int .i64 o1.To), (.int .i64 o1.Num), (.int .i64 o1.Den)])] (.d (.agg [(.bool r.N.Neg), (.imm 1 (lenc (PD.int .i64) r.N.D)), (.bool r.D.Neg), (.imm 1 (lenc (PD.int .i64) r.D.D))])) := by
 unfold m_cocketref01_rate at h
 refine pf Tryd.func63 Tryd.ntmps63 ?_
 refine sg fun K k => ?_
 iterate 2 refine oo ?_
 refine AOps.nil (k _ ?_)
 refine sg fun K k => ?_
 iterate 4 refine oo ?_
 obtain ⟨r1, hx_1, h⟩ := bind_some h
 refine cl (m_cocketref01_Frac_ok o1.Num o1.Den _ hx_1) ?_
 refine oo ?_
 refine AOps.nil (k _ ?_)
 refine AWp.ret ?_
 cases h; exact rt
end Go.Pv.Tryd

namespace Go.Pv.Tryd
open Go.Proofs Go.Pv
theorem m_cocketref01_Times_ok (a1 : Big) (b1 : Big) (r : Big) (h : m_cocketref01_Times a1 b1 = some r) : PureFn Tryd.prog G 71 [.d (.agg [(.bool a1.Neg), (.imm 1 (lenc (PD.int .i64) a1.D))]), .d (.agg [(.bool b1.Neg), (.imm 1 (lenc (PD.int .i64) b1.D))])] (.d (.agg [(.bool r.Neg), (.imm 1 (lenc (PD.int .i64) r.D))])) := by
 unfold m_cocketref01_Times at h
 refine pf Tryd.func71 Tryd.ntmps71 ?_
 refine sg fun K k => ?_
 iterate 3 refine oo ?_
 refine AOps.nil (k _ ?_)
 refine sd mo fun K k => ?_
 iterate 9 refine dd ?_
 obtain ⟨r1, hx_1, h⟩ := bind_some h
 refine dcl (m_cocketref01_mulD_ok a1.D b1.D _ hx_1) ?_
 obtain ⟨r2, hx_2, h⟩ := bind_some h
 refine dcl (m_cocketref01_whole_ok (!(a1.Neg == b1.Neg)) r1 _ hx_2) ?_
 refine dd ?_
 refine DOps.nil (by kernel_rfl) (k _ ?_)
 refine AWp.ret ?_
 cases h; exact rt
end Go.Pv.Tryd

namespace Go.Pv.Tryd
open Go.Proofs Go.Pv
theorem m_cocketref01_Mul_ok (a1 : Q) (b1 : Q) (r : Q) (h : m_cocketref01_Mul a1 b1 = some r) : PureFn Tryd.prog G 43 [.d (.agg [(.bool a1.N.Neg), (.imm 1 (lenc (PD.int .i64) a1.N.D)), (.bool a1.D.Neg), (.imm 1 (lenc (PD.int .i64) a1.D.D))]), .d (.agg [(.bool b1.N.Neg), (.imm 1 (lenc (PD.int .i64) b1.N.D)), (.bool b1.D.Neg), (.imm 1 (lenc (PD.int .i64) b1.D.D))])] (.d (.agg [(.bool r.N.Neg), (.imm 1 (lenc (PD.int .i64) r.N.D)), (.bool r.D.Neg), (.imm 1 (lenc (PD.int .i64) r.D.D))])) := by
 unfold m_cocketref01_Mul at h
 refine pf Tryd.func43 Tryd.ntmps43 ?_
 refine sg fun K k => ?_
 iterate 3 refine oo ?_
 refine AOps.nil (k _ ?_)
 refine sd mo fun K k => ?_
 iterate 4 refine dd ?_
 obtain ⟨r1, hx_1, h⟩ := bind_some h
 refine dcl (m_cocketref01_Times_ok a1.N b1.N _ hx_1) ?_
 iterate 4 refine dd ?_
 obtain ⟨r2, hx_2, h⟩ := bind_some h
 refine dcl (m_cocketref01_Times_ok a1.D b1.D _ hx_2) ?_
 obtain ⟨r3, hx_3, h⟩ := bind_some h
 refine dcl (m_cocketref01_lowest_ok r1 r2 _ hx_3) ?_
 refine dd ?_
 refine DOps.nil (by kernel_rfl) (k _ ?_)
 refine AWp.ret ?_
 cases h; exact rt
end Go.Pv.Tryd

namespace Go.Pv.Tryd
open Go.Proofs Go.Pv
theorem m_cocketref01_Compare_ok (a1 : Big) (b1 : Big) (r : Int) (h : m_cocketref01_Compare a1 b1 = some r) : PureFn Tryd.prog G 70 [.d (.agg [(.bool a1.Neg), (.imm 1 (lenc (PD.int .i64) a1.D))]), .d (.agg [(.bool b1.Neg), (.imm 1 (lenc (PD.int .i64) b1.D))])] (.d (.int .i64 r)) := by
 unfold m_cocketref01_Compare at h
 refine pf Tryd.func70 Tryd.ntmps70 ?_
 refine sg fun K k => ?_
 iterate 3 refine oo ?_
 refine AOps.nil (k _ ?_)
 refine AWp.seq fun _ K_1 => ?_
 refine sg fun K k => ?_
 iterate 5 refine oo ?_
 refine AOps.nil (k _ ?_)
 refine cd h (fun h => ?_) (fun h => ?_)
 ·refine AWp.seq fun _ K_3 => ?_
  refine sg fun K k => ?_
  iterate 2 refine oo ?_
  refine AOps.nil (k _ ?_)
  refine cd h (fun h => ?_) (fun h => ?_)
  ·refine sg fun K k => ?_
   refine oo ?_
   refine AOps.nil (k _ ?_)
   refine AWp.ret ?_
   cases h; exact rt
  ·refine AWp.skip ?_
   refine K_3 _ ?_
   refine sg fun K k => ?_
   refine oo ?_
   refine AOps.nil (k _ ?_)
   refine AWp.ret ?_
   cases h; exact rt
 ·refine AWp.skip ?_
  refine K_1 _ ?_
  refine sg fun K k => ?_
  iterate 4 refine oo ?_
  obtain ⟨r1, hx_5, h⟩ := bind_some h
  refine cl (m_cocketref01_cmpD_ok a1.D b1.D _ hx_5) ?_
  refine oo ?_
  refine AOps.nil (k _ ?_)
  refine AWp.seq fun _ K_6 => ?_
  refine sg fun K k => ?_
  iterate 2 refine oo ?_
  refine AOps.nil (k _ ?_)
  refine cd h (fun h => ?_) (fun h => ?_)
  ·refine sg fun K k => ?_
   iterate 3 refine oo ?_
   refine AOps.nil (k _ ?_)
   refine AWp.ret ?_
   cases h; exact rt
  ·refine AWp.skip ?_
   refine K_6 _ ?_
   refine sg fun K k => ?_
   iterate 2 refine oo ?_
   refine AOps.nil (k _ ?_)
   refine AWp.ret ?_
   cases h; exact rt
end Go.Pv.Tryd

namespace Go.Pv.Tryd
open Go.Proofs Go.Pv
theorem m_cocketref01_Cmp_ok (a1 : Q) (b1 : Q) (r : Int) (h : m_cocketref01_Cmp a1 b1 = some r) : PureFn Tryd.prog G 38 [.d (.agg [(.bool a1.N.Neg), (.imm 1 (lenc (PD.int .i64) a1.N.D)), (.bool a1.D.Neg), (.imm 1 (lenc (PD.int .i64) a1.D.D))]), .d (.agg [(.bool b1.N.Neg), (.imm 1 (lenc (PD.int .i64) b1.N.D)), (.bool b1.D.Neg), (.imm 1 (lenc (PD.int .i64) b1.D.D))])] (.d (.int .i64 r)) := by
 unfold m_cocketref01_Cmp at h
 refine pf Tryd.func38 Tryd.ntmps38 ?_
 refine sg fun K k => ?_
 iterate 3 refine oo ?_
 refine AOps.nil (k _ ?_)
 refine sd mo fun K k => ?_
 iterate 4 refine dd ?_
 obtain ⟨r1, hx_1, h⟩ := bind_some h
 refine dcl (m_cocketref01_Times_ok a1.N b1.D _ hx_1) ?_
 iterate 4 refine dd ?_
 obtain ⟨r2, hx_2, h⟩ := bind_some h
 refine dcl (m_cocketref01_Times_ok b1.N a1.D _ hx_2) ?_
 obtain ⟨r3, hx_3, h⟩ := bind_some h
 refine dcl (m_cocketref01_Compare_ok r1 r2 _ hx_3) ?_
 refine dd ?_
 refine DOps.nil (by kernel_rfl) (k _ ?_)
 refine AWp.ret ?_
 cases h; exact rt
end Go.Pv.Tryd

namespace Go.Pv.Tryd
open Go.Proofs Go.Pv
theorem m_cocketref01_better_ok (r1 : Reach) (q1 : Q) (r : Bool) (h : m_cocketref01_better r1 q1 = some r) : PureFn Tryd.prog G 58 [.d (.agg [(.bool r1.Is), (.bool r1.Rate.N.Neg), (.imm 1 (lenc (PD.int .i64) r1.Rate.N.D)), (.bool r1.Rate.D.Neg), (.imm 1 (lenc (PD.int .i64) r1.Rate.D.D))]), .d (.agg [(.bool q1.N.Neg), (.imm 1 (lenc (PD.int .i64) q1.N.D)), (.bool q1.D.Neg), (.imm 1 (lenc (PD.int .i64) q1.D.D))])] (.d (.bool r)) := by
 unfold m_cocketref01_better at h
 refine pf Tryd.func58 Tryd.ntmps58 ?_
 refine sg fun K k => ?_
 iterate 3 refine oo ?_
 refine AOps.nil (k _ ?_)
 refine sg fun K k => ?_
 iterate 4 refine oo ?_
 obtain ⟨b1, hc_1, h⟩ := bind_some h
 refine ct 6 [4] [] (fun  t => (14, .d (.bool b1)) :: t) ?_ ?_
 ·rcases bt (!r1.Is) with hg_3 | hg_3
  ·rw [hg_3]
   rw [hg_3, cond_true] at hc_1
   iterate 6 refine oo ?_
   refine AOps.nil ?_
   cases hc_1
   exact sb
  ·rw [hg_3]
   rw [hg_3, cond_false] at hc_1
   iterate 3 refine oo ?_
   obtain ⟨r2, hx_2, hc_1⟩ := bind_some hc_1
   refine cl (m_cocketref01_Cmp_ok q1 r1.Rate _ hx_2) ?_
   iterate 2 refine oo ?_
   refine AOps.nil ?_
   cases hc_1
   exact sb
 refine oo ?_
 refine AOps.nil (k _ ?_)
 refine AWp.ret ?_
 cases h; exact rt
end Go.Pv.Tryd

namespace Go.Pv.Tryd
open Go.Proofs Go.Pv
theorem m_cocketref01_reaches_ok (n1 : Int) (l1 : (List Offer)) (to1 : Int) (most1 : Int) (r : (List (List Reach))) (h : m_cocketref01_reaches n1 l1 to1 most1 = some r) : PureFn Tryd.prog G 57 [.d (.int .i64 n1), .d (.imm 4 (lenc Offer.pd l1)), .d (.int .i64 to1), .d (.int .i64 most1)] (.d (.imm 1 (lenc (slenc 5 Reach.pd) r))) := by
 unfold m_cocketref01_reaches at h
 refine pf Tryd.func57 Tryd.ntmps57 ?_
 refine sg fun K k => ?_
 refine oo ?_
 refine AOps.nil (k _ ?_)
 refine sg fun K k => ?_
 obtain ⟨hg_1, h⟩ := guardO_some h
 iterate 2 refine oo ?_
 refine AOps.sub (τ := ⟨[(0, .d (.int .i64 n1)), (1, .d (.imm 4 (lenc Offer.pd l1))), (2, .d (.int .i64 to1)), (3, .d (.int .i64 most1)), (17, .slc 1000 0 ((n1).toNat))], [(1000, ⟨90, 5, dl (lenc Reach.pd (List.replicate (n1).toNat (⟨false, ⟨⟨false, []⟩, ⟨false, []⟩⟩⟩ : Reach)))⟩)], [], none⟩) sch ?_
 refine oo ?_
 refine AOps.nil (k _ ?_)
 refine sg fun K k => ?_
 iterate 2 refine oo ?_
 obtain ⟨r1, hx_2, h⟩ := bind_some h
 refine cl (m_cocketref01_Frac_ok 1 1 _ hx_2) ?_
 obtain ⟨e1, ⟨f_3, f_4, f_5, f_6⟩, h⟩ := idx_bind h
 try simp only [List.length_append, List.length_set, List.length_replicate, List.length_cons, List.length_nil] at f_4 f_6
 iterate 2 refine oo ?_
 refine oo ?_ (by intro K k; simp (disch := omega) only [go_sem, f_5, ↓reduceIte]; exact k)
 refine AOps.nil (k _ ?_)
 refine sg fun K k => ?_
 refine oo ?_
 refine AOps.sub (τ := ⟨[(0, .d (.int .i64 n1)), (1, .d (.imm 4 (lenc Offer.pd l1))), (3, .d (.int .i64 most1)), (23, .d (.imm 5 (lenc Reach.pd ((List.replicate (n1).toNat (⟨false, ⟨⟨false, []⟩, ⟨false, []⟩⟩⟩ : Reach)).set (to1).toNat (⟨true, r1⟩ : Reach)))))], [], [], none⟩) sc ?_
 iterate 2 refine oo ?_
 refine AOps.nil (k _ ?_)
 refine jn (α := (List (List Reach))) [] [] (fun i t => (10, .slc 1000 0 i.length) :: t) (fun i t => (1000, ⟨86, 1, dl (lenc (slenc 5 Reach.pd) i)⟩) :: t) h ?_ ?_
 ·intro _ hj_8
  refine sg fun K k => ?_
  refine oo ?_
  refine AOps.nil (k _ ?_)
  refine AWp.block ?_
  obtain ⟨x_13, hl_10, h2_11⟩ := bind_some hj_8
  refine lp (S := (Int × (List (List Reach)))) [0, 1, 3] [] (fun i t => (10, .slc 1000 0 i.2.length) :: (11, .d (.int .i64 i.1)) :: t) (fun i t => (1000, ⟨86, 1, dl (lenc (slenc 5 Reach.pd) i.2)⟩) :: t) hl_10 ?_ ?_; exact sb; clear hl_10
  rintro ⟨k1, L2⟩ _ hb_12; unfold m_cocketref01_reaches_l1 at hb_12; try dsimp only at hb_12
  try dsimp only
  refine AWp.seq fun _ K_15 => ?_
  refine sg fun K k => ?_
  iterate 3 refine oo ?_
  refine AOps.nil (k _ ?_)
  refine cd hb_12 (fun hb_12 => ?_) (fun hb_12 => ?_)
  ·refine AWp.skip ?_
   refine K_15 _ ?_
   refine jn (α := (List (List Reach))) [0, 1, 3, 11] [] (fun i t => (10, .slc 1000 0 i.length) :: t) (fun i t => (1000, ⟨86, 1, dl (lenc (slenc 5 Reach.pd) i)⟩) :: t) hb_12 ?_ ?_
   ·intro _ hj_18
    refine AWp.block ?_
    refine sg fun K k => ?_
    obtain ⟨hg_19, hj_18⟩ := guardO_some hj_18
    iterate 2 refine oo ?_
    refine AOps.sub (τ := ⟨[(0, .d (.int .i64 n1)), (1, .d (.imm 4 (lenc Offer.pd l1))), (3, .d (.int .i64 most1)), (10, .slc 1000 0 L2.length), (11, .d (.int .i64 k1)), (31, .slc 1001 0 ((n1).toNat))], [(1000, ⟨86, 1, dl (lenc (slenc 5 Reach.pd) L2)⟩), (1001, ⟨90, 5, dl (lenc Reach.pd (List.replicate (n1).toNat (⟨false, ⟨⟨false, []⟩, ⟨false, []⟩⟩⟩ : Reach)))⟩)], [], none⟩) sch ?_
    refine oo ?_
    refine AOps.nil (k _ ?_)
    refine jn (α := (List Reach)) [0, 1, 3, 10, 11] [1000] (fun i t => (12, .slc 1001 0 i.length) :: t) (fun i t => (1001, ⟨90, 5, dl (lenc Reach.pd i)⟩) :: t) hj_18 ?_ ?_
    ·intro _ hj_21
     refine sg fun K k => ?_
     refine oo ?_
     refine AOps.nil (k _ ?_)
     refine AWp.block ?_
     obtain ⟨x_26, hl_23, h2_24⟩ := bind_some hj_21
     refine lp (S := (Int × (List Reach))) [0, 1, 3, 10, 11] [1000] (fun i t => (12, .slc 1001 0 i.2.length) :: (13, .d (.int .i64 i.1)) :: t) (fun i t => (1001, ⟨90, 5, dl (lenc Reach.pd i.2)⟩) :: t) hl_23 ?_ ?_; exact sb; clear hl_23
     rintro ⟨i1, L5⟩ _ hb_25; unfold m_cocketref01_reaches_l2 at hb_25; try dsimp only at hb_25
     try dsimp only
     refine AWp.seq fun _ K_28 => ?_
     refine sg fun K k => ?_
     iterate 4 refine oo ?_
     refine AOps.nil (k _ ?_)
     refine cd hb_25 (fun hb_25 => ?_) (fun hb_25 => ?_)
     ·refine AWp.skip ?_
      refine K_28 _ ?_
      refine jn (α := (List Reach)) [0, 1, 3, 10, 11, 13] [1000] (fun i t => (12, .slc 1001 0 i.length) :: t) (fun i t => (1001, ⟨90, 5, dl (lenc Reach.pd i)⟩) :: t) hb_25 ?_ ?_
      ·intro _ hj_31
       refine AWp.block ?_
       refine sd mo fun K k => ?_
       obtain ⟨e2, ⟨f_32, f_33, f_34, f_35⟩, hj_31⟩ := idx_bind hj_31
       iterate 4 refine dd ?_
       refine dd ?_ (by intro K k; simp (disch := omega) only [go_sem, f_34, ↓reduceIte]; exact k)
       obtain ⟨e3, ⟨f_36, f_37, f_38, f_39⟩, hj_31⟩ := idx_bind hj_31
       iterate 4 refine dd ?_
       refine dd ?_ (by intro K k; simp (disch := omega) only [go_sem, f_38, ↓reduceIte]; exact k)
       obtain ⟨e4, ⟨f_40, f_41, f_42, f_43⟩, hj_31⟩ := idx_bind hj_31
       refine dd ?_
       refine dd ?_ (by intro K k; simp (disch := omega) only [go_sem, f_42, ↓reduceIte]; exact k)
       iterate 2 refine dd ?_
       refine DOps.nil (by kernel_rfl) (k _ ?_)
       refine sg fun K k => ?_
       iterate 2 refine oo ?_
       refine AOps.nil (k _ ?_)
       refine cd hj_31 (fun hj_31 => ?_) (fun hj_31 => ?_)
       ·refine sd mo fun K k => ?_
        obtain ⟨e5, ⟨f_45, f_46, f_47, f_48⟩, hj_31⟩ := idx_bind hj_31
        iterate 3 refine dd ?_
        refine dd ?_ (by intro K k; simp (disch := omega) only [go_sem, f_47, ↓reduceIte]; exact k)
        obtain ⟨r2, hx_49, hj_31⟩ := bind_some hj_31
        refine dcl (m_cocketref01_rate_ok e5 _ hx_49) ?_
        iterate 2 refine dd ?_
        obtain ⟨r3, hx_50, hj_31⟩ := bind_some hj_31
        refine dcl (m_cocketref01_Mul_ok r2 e4.Rate _ hx_50) ?_
        iterate 2 refine dd ?_
        refine DOps.nil (by kernel_rfl) (k _ ?_)
        refine sd mo fun K k => ?_
        obtain ⟨e6, ⟨f_51, f_52, f_53, f_54⟩, hj_31⟩ := idx_bind hj_31
        iterate 5 refine dd ?_
        refine dd ?_ (by intro K k; simp (disch := omega) only [go_sem, f_53, ↓reduceIte]; exact k)
        obtain ⟨e7, ⟨f_55, f_56, f_57, f_58⟩, hj_31⟩ := idx_bind hj_31
        refine dd ?_
        refine dd ?_ (by intro K k; simp (disch := omega) only [go_sem, f_57, ↓reduceIte]; exact k)
        refine dd ?_
        obtain ⟨r4, hx_59, hj_31⟩ := bind_some hj_31
        refine dcl (m_cocketref01_better_ok e7 r3 _ hx_59) ?_
        refine DOps.nil (by kernel_rfl) (k _ ?_)
        refine cd hj_31 (fun hj_31 => ?_) (fun hj_31 => ?_)
        ·refine AWp.draw mo [] trivial ?_
         obtain ⟨e8, ⟨f_61, f_62, f_63, f_64⟩, hj_31⟩ := idx_bind hj_31
         iterate 5 refine dd ?_
         refine dd ?_ (by intro K k; simp (disch := omega) only [go_sem, f_63, ↓reduceIte]; exact k)
         obtain ⟨e9, ⟨f_65, f_66, f_67, f_68⟩, hj_31⟩ := idx_bind hj_31
         iterate 3 refine dd ?_
         refine dd ?_ (by intro K k; simp (disch := omega) only [go_sem, f_67, ↓reduceIte]; exact k)
         refine DOps.nil (by kernel_rfl) ?_
         cases hj_31; exact sb
        ·refine AWp.skip ?_
         cases hj_31; exact sb
       ·refine AWp.skip ?_
        cases hj_31; exact sb
      ·rintro L6 hb_25; dsimp only at hb_25 ⊢
       refine AWp.reg ?_
       iterate 3 refine oo ?_
       refine AOps.nil ?_
       exact ln hb_25 sb
     ·refine AWp.exit ?_
      refine lx hb_25 fun hx => ?_; cases hx; try dsimp only at h2_24
      cases h2_24; exact sb
    ·rintro L4 hj_18; dsimp only at hj_18 ⊢
     refine AWp.reg ?_
     iterate 2 refine oo ?_
     refine AOps.sub (τ := ⟨[(0, .d (.int .i64 n1)), (1, .d (.imm 4 (lenc Offer.pd l1))), (3, .d (.int .i64 most1)), (10, .slc 1000 0 L2.length), (11, .d (.int .i64 k1)), (79, .slc 1000 0 L2.length), (80, .d (.imm 5 (lenc Reach.pd L4)))], [(1000, ⟨86, 1, dl (lenc (slenc 5 Reach.pd) L2)⟩)], [], none⟩) sc ?_
     refine ol ?_
     obtain ⟨hg_69, hj_18⟩ := guardO_some hj_18
     iterate 2 refine oo ?_
     refine AOps.nil ?_
     cases hj_18; exact sb
   ·rintro L3 hb_12; dsimp only at hb_12 ⊢
    refine AWp.reg ?_
    iterate 3 refine oo ?_
    refine AOps.nil ?_
    exact ln hb_12 sb
  ·refine AWp.exit ?_
   refine lx hb_12 fun hx => ?_; cases hx; try dsimp only at h2_11
   cases h2_11; exact sb
 ·rintro L1 h; dsimp only at h ⊢
  refine sg fun K k => ?_
  iterate 2 refine oo ?_
  refine AOps.nil (k _ ?_)
  refine AWp.ret ?_
  cases h; exact rt
end Go.Pv.Tryd

namespace Go.Pv.Tryd
open Go.Proofs Go.Pv
theorem m_cocketref01_gains_ok (q1 : Q) (r1 : Reach) (r : Bool) (h : m_cocketref01_gains q1 r1 = some r) : PureFn Tryd.prog G 92 [.d (.agg [(.bool q1.N.Neg), (.imm 1 (lenc (PD.int .i64) q1.N.D)), (.bool q1.D.Neg), (.imm 1 (lenc (PD.int .i64) q1.D.D))]), .d (.agg [(.bool r1.Is), (.bool r1.Rate.N.Neg), (.imm 1 (lenc (PD.int .i64) r1.Rate.N.D)), (.bool r1.Rate.D.Neg), (.imm 1 (lenc (PD.int .i64) r1.Rate.D.D))])] (.d (.bool r)) := by
 unfold m_cocketref01_gains at h
 refine pf Tryd.func92 Tryd.ntmps92 ?_
 refine sg fun K k => ?_
 iterate 3 refine oo ?_
 refine AOps.nil (k _ ?_)
 refine sg fun K k => ?_
 iterate 3 refine oo ?_
 obtain ⟨b1, hc_1, h⟩ := bind_some h
 refine ct 8 [4] [] (fun  t => (15, .d (.bool b1)) :: t) ?_ ?_
 ·rcases bt r1.Is with hg_5 | hg_5
  ·rw [hg_5]
   rw [hg_5, cond_true] at hc_1
   iterate 3 refine oo ?_
   obtain ⟨r2, hx_2, hc_1⟩ := bind_some hc_1
   refine cl (m_cocketref01_Mul_ok q1 r1.Rate _ hx_2) ?_
   obtain ⟨r3, hx_3, hc_1⟩ := bind_some hc_1
   refine cl (m_cocketref01_Frac_ok 1 1 _ hx_3) ?_
   obtain ⟨r4, hx_4, hc_1⟩ := bind_some hc_1
   refine cl (m_cocketref01_Cmp_ok r2 r3 _ hx_4) ?_
   iterate 2 refine oo ?_
   refine AOps.nil ?_
   cases hc_1
   exact sb
  ·rw [hg_5]
   rw [hg_5, cond_false] at hc_1
   iterate 8 refine oo ?_
   refine AOps.nil ?_
   cases hc_1
   exact sb
 refine oo ?_
 refine AOps.nil (k _ ?_)
 refine AWp.ret ?_
 cases h; exact rt
end Go.Pv.Tryd

namespace Go.Pv.Tryd
open Go.Proofs Go.Pv
theorem m_cocketref01_closed_ok (l1 : (List Offer)) (r1 : (List (List Reach))) (first1 : Int) (k1 : Int) (r : ((List Int) × Bool)) (h : m_cocketref01_closed l1 r1 first1 k1 = some r) : PureFn Tryd.prog G 77 [.d (.imm 4 (lenc Offer.pd l1)), .d (.imm 1 (lenc (slenc 5 Reach.pd) r1)), .d (.int .i64 first1), .d (.int .i64 k1)] (.tuple [.d (.imm 1 (lenc (PD.int .i64) r.1)), .d (.bool r.2)]) := by
 unfold m_cocketref01_closed at h
 refine pf Tryd.func77 Tryd.ntmps77 ?_
 refine sg fun K k => ?_
 iterate 2 refine oo ?_
 refine AOps.nil (k _ ?_)
 refine sg fun K k => ?_
 iterate 3 refine oo ?_
 refine AOps.nil (k _ ?_)
 refine sg fun K k => ?_
 obtain ⟨e1, ⟨f_1, f_2, f_3, f_4⟩, h⟩ := idx_bind h
 iterate 3 refine oo ?_
 refine oo ?_ (by intro K k; simp (disch := omega) only [go_sem, f_3, ↓reduceIte]; exact k)
 obtain ⟨r2, hx_5, h⟩ := bind_some h
 refine cl (m_cocketref01_rate_ok e1 _ hx_5) ?_
 iterate 2 refine oo ?_
 refine AOps.nil (k _ ?_)
 refine AWp.seq fun _ K_6 => ?_
 refine sd mo fun K k => ?_
 obtain ⟨e2, ⟨f_7, f_8, f_9, f_10⟩, h⟩ := idx_bind h
 iterate 5 refine dd ?_
 refine dd ?_ (by intro K k; simp (disch := omega) only [go_sem, f_9, ↓reduceIte]; exact k)
 obtain ⟨e3, ⟨f_11, f_12, f_13, f_14⟩, h⟩ := idx_bind h
 iterate 4 refine dd ?_
 refine dd ?_ (by intro K k; simp (disch := omega) only [go_sem, f_13, ↓reduceIte]; exact k)
 obtain ⟨e4, ⟨f_15, f_16, f_17, f_18⟩, h⟩ := idx_bind h
 refine dd ?_
 refine dd ?_ (by intro K k; simp (disch := omega) only [go_sem, f_17, ↓reduceIte]; exact k)
 obtain ⟨r3, hx_19, h⟩ := bind_some h
 refine dcl (m_cocketref01_gains_ok r2 e4 _ hx_19) ?_
 refine dd ?_
 refine DOps.nil (by kernel_rfl) (k _ ?_)
 refine cd h (fun h => ?_) (fun h => ?_)
 ·refine sg fun K k => ?_
  iterate 2 refine oo ?_
  refine AOps.nil (k _ ?_)
  refine AWp.ret ?_
  cases h; exact rt
 ·refine AWp.skip ?_
  refine K_6 _ ?_
  refine jn (α := (List Int)) [] [] (fun i t => (10, .slc 1000 0 i.length) :: t) (fun i t => (1000, ⟨3, 1, dl (lenc (PD.int .i64) i)⟩) :: t) h ?_ ?_
  ·intro _ hj_22
   refine AWp.block ?_
   obtain ⟨x_27, hl_24, h2_25⟩ := bind_some hj_22
   refine lp (S := ((List Int) × Q)) [0, 1, 3] [] (fun i t => (10, .slc 1000 0 i.1.length) :: (11, .ptr 1001 0 0) :: t) (fun i t => (1000, ⟨3, 1, dl (lenc (PD.int .i64) i.1)⟩) :: (1001, ⟨59, 4, [.d (.agg [(.bool i.2.N.Neg), (.imm 1 (lenc (PD.int .i64) i.2.N.D)), (.bool i.2.D.Neg), (.imm 1 (lenc (PD.int .i64) i.2.D.D))])]⟩) :: t) hl_24 ?_ ?_; exact sb; clear hl_24
   rintro ⟨L2, c1⟩ _ hb_26; unfold m_cocketref01_closed_l1 at hb_26; try dsimp only at hb_26
   try dsimp only
   refine AWp.seq fun _ K_29 => ?_
   refine sg fun K k => ?_
   iterate 4 refine oo ?_
   refine AOps.nil (k _ ?_)
   refine cd hb_26 (fun hb_26 => ?_) (fun hb_26 => ?_)
   ·refine AWp.skip ?_
    refine K_29 _ ?_
    refine AWp.block ?_
    refine sg fun K k => ?_
    obtain ⟨e5, ⟨f_31, f_32, f_33, f_34⟩, hb_26⟩ := idx_bind hb_26
    try simp only [Int.toNat_natCast] at f_33 f_34
    iterate 6 refine oo ?_
    refine oo ?_ (by intro K k; simp (disch := omega) only [go_sem, f_33, ↓reduceIte]; exact k)
    obtain ⟨e6, ⟨f_35, f_36, f_37, f_38⟩, hb_26⟩ := idx_bind hb_26
    iterate 2 refine oo ?_
    refine oo ?_ (by intro K k; simp (disch := omega) only [go_sem, f_37, ↓reduceIte]; exact k)
    refine oo ?_
    refine AOps.nil (k _ ?_)
    refine sg fun K k => ?_
    refine oo ?_
    refine AOps.nil (k _ ?_)
    refine AWp.block ?_
    obtain ⟨x_43, hl_40, h2_41⟩ := bind_some hb_26
    refine lp (S := (Int × (List Int) × Q)) [0, 1, 3, 12] [] (fun i t => (10, .slc 1000 0 i.2.1.length) :: (11, .ptr 1001 0 0) :: (13, .d (.int .i64 i.1)) :: t) (fun i t => (1000, ⟨3, 1, dl (lenc (PD.int .i64) i.2.1)⟩) :: (1001, ⟨59, 4, [.d (.agg [(.bool i.2.2.N.Neg), (.imm 1 (lenc (PD.int .i64) i.2.2.N.D)), (.bool i.2.2.D.Neg), (.imm 1 (lenc (PD.int .i64) i.2.2.D.D))])]⟩) :: t) hl_40 ?_ ?_; exact sb; clear hl_40
    rintro ⟨i1, L3, c2⟩ _ hb_42; unfold m_cocketref01_closed_l2 at hb_42; try dsimp only at hb_42
    try dsimp only
    refine AWp.seq fun _ K_45 => ?_
    refine sg fun K k => ?_
    iterate 4 refine oo ?_
    refine AOps.nil (k _ ?_)
    refine cd hb_42 (fun hb_42 => ?_) (fun hb_42 => ?_)
    ·refine AWp.skip ?_
     refine K_45 _ ?_
     refine AWp.seq fun _ K_47 => ?_
     refine AWp.block ?_
     refine sd mo fun K k => ?_
     obtain ⟨e7, ⟨f_48, f_49, f_50, f_51⟩, hb_42⟩ := idx_bind hb_42
     iterate 4 refine dd ?_
     refine dd ?_ (by intro K k; simp (disch := omega) only [go_sem, f_50, ↓reduceIte]; exact k)
     iterate 3 refine dd ?_
     rcases bt (decide (e7.From = e6.To)) with hg_52 | hg_52
     ·rw [hg_52]
      rw [hg_52, cond_true] at hb_42
      iterate 4 refine dd ?_
      refine dd ?_ (by intro K k; simp (disch := omega) only [go_sem, f_50, ↓reduceIte]; exact k)
      obtain ⟨r4, hx_53, hb_42⟩ := bind_some hb_42
      refine dcl (m_cocketref01_rate_ok e7 _ hx_53) ?_
      obtain ⟨r5, hx_54, hb_42⟩ := bind_some hb_42
      refine dcl (m_cocketref01_Mul_ok c2 r4 _ hx_54) ?_
      obtain ⟨e8, ⟨f_55, f_56, f_57, f_58⟩, hb_42⟩ := idx_bind hb_42
      try simp only [Int.toNat_natCast] at f_57 f_58
      iterate 7 refine dd ?_
      refine dd ?_ (by intro K k; simp (disch := omega) only [go_sem, f_57, ↓reduceIte]; exact k)
      iterate 4 refine dd ?_
      refine dd ?_ (by intro K k; simp (disch := omega) only [go_sem, f_50, ↓reduceIte]; exact k)
      obtain ⟨e9, ⟨f_59, f_60, f_61, f_62⟩, hb_42⟩ := idx_bind hb_42
      refine dd ?_
      refine dd ?_ (by intro K k; simp (disch := omega) only [go_sem, f_61, ↓reduceIte]; exact k)
      obtain ⟨r6, hx_63, hb_42⟩ := bind_some hb_42
      refine dcl (m_cocketref01_gains_ok r5 e9 _ hx_63) ?_
      refine dd ?_
      refine DOps.nil (by kernel_rfl) (k _ ?_)
      refine cd hb_42 (fun hb_42 => ?_) (fun hb_42 => ?_)
      ·refine sd mo fun K k => ?_
       obtain ⟨e10, ⟨f_65, f_66, f_67, f_68⟩, hb_42⟩ := idx_bind hb_42
       iterate 4 refine dd ?_
       refine dd ?_ (by intro K k; simp (disch := omega) only [go_sem, f_67, ↓reduceIte]; exact k)
       obtain ⟨r7, hx_69, hb_42⟩ := bind_some hb_42
       refine dcl (m_cocketref01_rate_ok e10 _ hx_69) ?_
       obtain ⟨r8, hx_70, hb_42⟩ := bind_some hb_42
       refine dcl (m_cocketref01_Mul_ok c2 r7 _ hx_70) ?_
       refine dd ?_
       refine DOps.nil (by kernel_rfl) (k _ ?_)
       refine sg fun K k => ?_
       iterate 2 refine oo ?_
       refine ol ?_
       obtain ⟨hg_71, hb_42⟩ := guardO_some hb_42
       iterate 2 refine oo ?_
       refine AOps.nil (k _ ?_)
       refine AWp.exit ?_
       refine lx hb_42 fun hx => ?_; cases hx; try dsimp only at h2_41
       exact ln h2_41 sb
      ·refine AWp.skip ?_
       refine K_47 _ ?_
       refine AWp.reg ?_
       iterate 3 refine oo ?_
       refine AOps.nil ?_
       exact ln hb_42 sb
     ·rw [hg_52]
      rw [hg_52, cond_false] at hb_42
      iterate 24 refine dd ?_
      refine DOps.nil (by kernel_rfl) (k _ ?_)
      refine cdf ?_
      refine AWp.skip ?_
      refine K_47 _ ?_
      refine AWp.reg ?_
      iterate 3 refine oo ?_
      refine AOps.nil ?_
      exact ln hb_42 sb
    ·refine AWp.exit ?_
     refine lx hb_42 fun hx => ?_; cases hx; try dsimp only at h2_41
     exact ln h2_41 sb
   ·refine AWp.exit ?_
    refine lx hb_26 fun hx => ?_; cases hx; try dsimp only at h2_25
    cases h2_25; exact sb
  ·rintro L1 h; dsimp only at h ⊢
   refine sg fun K k => ?_
   iterate 3 refine oo ?_
   refine AOps.nil (k _ ?_)
   refine AWp.ret ?_
   cases h; exact rt
end Go.Pv.Tryd

namespace Go.Pv.Tryd
open Go.Proofs Go.Pv
theorem m_cocketref01_gaining_ok (n1 : Int) (l1 : (List Offer)) (r : ((List Int) × Bool)) (h : m_cocketref01_gaining n1 l1 = some r) : PureFn Tryd.prog G 49 [.d (.int .i64 n1), .d (.imm 4 (lenc Offer.pd l1))] (.tuple [.d (.imm 1 (lenc (PD.int .i64) r.1)), .d (.bool r.2)]) := by
 unfold m_cocketref01_gaining at h
 refine pf Tryd.func49 Tryd.ntmps49 ?_
 refine sg fun K k => ?_
 iterate 2 refine oo ?_
 refine AOps.nil (k _ ?_)
 refine sg fun K k => ?_
 refine oo ?_
 refine AOps.nil (k _ ?_)
 refine AWp.sub (Sub.void 6 87 1 1000 (by rfl) (by rfl) (by decide) (by decide)) ?_
 simp only [eput, hput, reduceCtorEq, ↓reduceIte, Nat.reduceAdd, Nat.reduceMul, Nat.reduceLT, Nat.reduceLeDiff, Nat.reduceEqDiff, Nat.reduceBEq, Int.reduceToNat]
 refine jn (α := (List (List (List Reach)))) [0, 1] [] (fun i t => (6, .slc 1000 0 i.length) :: t) (fun i t => (1000, ⟨87, 1, dl (lenc (slenc 1 (slenc 5 Reach.pd)) i)⟩) :: t) h ?_ ?_
 ·intro _ hj_2
  refine sg fun K k => ?_
  refine oo ?_
  refine AOps.nil (k _ ?_)
  refine AWp.block ?_
  obtain ⟨x_7, hl_4, h2_5⟩ := bind_some hj_2
  refine lp (S := (Int × (List (List (List Reach))))) [0, 1] [] (fun i t => (6, .slc 1000 0 i.2.length) :: (7, .d (.int .i64 i.1)) :: t) (fun i t => (1000, ⟨87, 1, dl (lenc (slenc 1 (slenc 5 Reach.pd)) i.2)⟩) :: t) hl_4 ?_ ?_; exact sb; clear hl_4
  rintro ⟨s1, L2⟩ _ hb_6; unfold m_cocketref01_gaining_l1 at hb_6; try dsimp only at hb_6
  try dsimp only
  refine AWp.seq fun _ K_9 => ?_
  refine sg fun K k => ?_
  iterate 3 refine oo ?_
  refine AOps.nil (k _ ?_)
  refine cd hb_6 (fun hb_6 => ?_) (fun hb_6 => ?_)
  ·refine AWp.skip ?_
   refine K_9 _ ?_
   refine AWp.seq fun _ K_11 => ?_
   refine AWp.block ?_
   refine AWp.reg ?_
   iterate 5 refine oo ?_
   obtain ⟨r1, hx_12, hb_6⟩ := bind_some hb_6
   refine cl (m_cocketref01_reaches_ok n1 l1 s1 n1 _ hx_12) ?_
   refine ol ?_
   obtain ⟨hg_13, hb_6⟩ := guardO_some hb_6
   iterate 2 refine oo ?_
   refine AOps.nil ?_
   refine K_11 _ ?_
   refine AWp.reg ?_
   iterate 3 refine oo ?_
   refine AOps.nil ?_
   exact ln hb_6 sb
  ·refine AWp.exit ?_
   refine lx hb_6 fun hx => ?_; cases hx; try dsimp only at h2_5
   cases h2_5; exact sb
 ·rintro L1 h; dsimp only at h ⊢
  refine jm (ι := Unit) [] [] (fun i t => t) (fun i t => t) .inl h ?_ ?_
  ·intro _ hj_15 h
   refine sg fun K k => ?_
   refine oo ?_
   refine AOps.nil (k _ ?_)
   refine AWp.block ?_
   obtain ⟨x_20, hl_17, h2_18⟩ := bind_some hj_15
   refine lp (S := Int) [0, 1, 6] [1000] (fun i t => (8, .d (.int .i64 i)) :: t) (fun i t => t) hl_17 ?_ ?_; exact sb; clear hl_17
   rintro k1 _ hb_19; unfold m_cocketref01_gaining_l2 at hb_19; try dsimp only at hb_19
   try dsimp only
   refine AWp.seq fun _ K_22 => ?_
   refine sg fun K k => ?_
   iterate 3 refine oo ?_
   refine AOps.nil (k _ ?_)
   refine cd hb_19 (fun hb_19 => ?_) (fun hb_19 => ?_)
   ·refine AWp.skip ?_
    refine K_22 _ ?_
    refine jm (ι := Unit) [0, 1, 6, 8] [1000] (fun i t => t) (fun i t => t) .inl hb_19 ?_ ?_
    ·intro _ hj_25 hb_19
     refine AWp.block ?_
     refine sg fun K k => ?_
     refine oo ?_
     refine AOps.nil (k _ ?_)
     refine AWp.block ?_
     obtain ⟨x_30, hl_27, h2_28⟩ := bind_some hj_25
     refine lp (S := Int) [0, 1, 6, 8] [1000] (fun i t => (9, .d (.int .i64 i)) :: t) (fun i t => t) hl_27 ?_ ?_; exact sb; clear hl_27
     rintro i1 _ hb_29; unfold m_cocketref01_gaining_l3 at hb_29; try dsimp only at hb_29
     try dsimp only
     refine AWp.seq fun _ K_32 => ?_
     refine sg fun K k => ?_
     iterate 4 refine oo ?_
     refine AOps.nil (k _ ?_)
     refine cd hb_29 (fun hb_29 => ?_) (fun hb_29 => ?_)
     ·refine AWp.skip ?_
      refine K_32 _ ?_
      refine AWp.seq fun _ K_34 => ?_
      refine AWp.block ?_
      refine sg fun K k => ?_
      obtain ⟨e1, ⟨f_35, f_36, f_37, f_38⟩, hb_29⟩ := idx_bind hb_29
      iterate 6 refine oo ?_
      refine oo ?_ (by intro K k; simp (disch := omega) only [go_sem, f_37, ↓reduceIte]; exact k)
      obtain ⟨e2, ⟨f_39, f_40, f_41, f_42⟩, hb_29⟩ := idx_bind hb_29
      refine oo ?_
      refine oo ?_ (by intro K k; simp (disch := omega) only [go_sem, f_41, ↓reduceIte]; exact k)
      iterate 2 refine oo ?_
      obtain ⟨r2, hx_43, hb_29⟩ := bind_some hb_29
      refine cl (m_cocketref01_closed_ok l1 e2 i1 k1 _ hx_43) ?_
      iterate 5 refine oo ?_
      refine AOps.nil (k _ ?_)
      refine sg fun K k => ?_
      refine oo ?_
      refine AOps.nil (k _ ?_)
      refine cd hb_29 (fun hb_29 => ?_) (fun hb_29 => ?_)
      ·refine sg fun K k => ?_
       iterate 3 refine oo ?_
       refine AOps.nil (k _ ?_)
       refine AWp.ret ?_
       refine lx hb_29 fun hx => ?_; cases hx; try dsimp only at h2_28
       cases h2_28; try dsimp only at hb_19
       refine lx hb_19 fun hx => ?_; cases hx; try dsimp only at h2_18
       cases h2_18; try dsimp only at h
       cases h; exact rt
      ·refine AWp.skip ?_
       refine K_34 _ ?_
       refine AWp.reg ?_
       iterate 3 refine oo ?_
       refine AOps.nil ?_
       exact ln hb_29 sb
     ·refine AWp.exit ?_
      refine lx hb_29 fun hx => ?_; cases hx; try dsimp only at h2_28
      exact ln h2_28 sb
    ·rintro _ hb_19; dsimp only at hb_19 ⊢
     refine AWp.reg ?_
     iterate 3 refine oo ?_
     refine AOps.nil ?_
     exact ln hb_19 sb
   ·refine AWp.exit ?_
    refine lx hb_19 fun hx => ?_; cases hx; try dsimp only at h2_18
    exact ln h2_18 sb
  ·rintro _ h; dsimp only at h ⊢
   refine sg fun K k => ?_
   iterate 2 refine oo ?_
   refine AOps.nil (k _ ?_)
   refine AWp.ret ?_
   cases h; exact rt
end Go.Pv.Tryd

namespace Go.Pv.Tryd
open Go.Proofs Go.Pv
theorem m_cocketref01_best_ok (n1 : Int) (l1 : (List Offer)) (from1 : Int) (to1 : Int) (r : (Q × (List Int) × Bool)) (h : m_cocketref01_best n1 l1 from1 to1 = some r) : PureFn Tryd.prog G 50 [.d (.int .i64 n1), .d (.imm 4 (lenc Offer.pd l1)), .d (.int .i64 from1), .d (.int .i64 to1)] (.tuple [.d (.agg [(.bool r.1.N.Neg), (.imm 1 (lenc (PD.int .i64) r.1.N.D)), (.bool r.1.D.Neg), (.imm 1 (lenc (PD.int .i64) r.1.D.D))]), .d (.imm 1 (lenc (PD.int .i64) r.2.1)), .d (.bool r.2.2)]) := by
 unfold m_cocketref01_best at h
 refine pf Tryd.func50 Tryd.ntmps50 ?_
 refine sg fun K k => ?_
 iterate 3 refine oo ?_
 refine AOps.nil (k _ ?_)
 refine sg fun K k => ?_
 iterate 5 refine oo ?_
 obtain ⟨r1, hx_1, h⟩ := bind_some h
 refine cl (m_cocketref01_reaches_ok n1 l1 to1 (IntKind.i64.wrap (n1 - 1)) _ hx_1) ?_
 refine oo ?_
 refine AOps.nil (k _ ?_)
 refine sg fun K k => ?_
 iterate 3 refine oo ?_
 refine AOps.nil (k _ ?_)
 refine sg fun K k => ?_
 refine oo ?_
 refine AOps.nil (k _ ?_)
 refine jn (α := (Int × Reach)) [1, 2, 8, 11] [1000] (fun i t => (12, .ptr 1001 0 0) :: (13, .d (.int .i64 i.1)) :: t) (fun i t => (1001, ⟨90, 5, [.d (.agg [(.bool i.2.Is), (.bool i.2.Rate.N.Neg), (.imm 1 (lenc (PD.int .i64) i.2.Rate.N.D)), (.bool i.2.Rate.D.Neg), (.imm 1 (lenc (PD.int .i64) i.2.Rate.D.D))])]⟩) :: t) h ?_ ?_
 ·intro _ hj_3
  refine sg fun K k => ?_
  refine oo ?_
  refine AOps.nil (k _ ?_)
  refine AWp.block ?_
  obtain ⟨x_8, hl_5, h2_6⟩ := bind_some hj_3
  refine lp (S := (Int × Int × Reach)) [0, 1, 2, 8, 11] [1000] (fun i t => (12, .ptr 1001 0 0) :: (13, .d (.int .i64 i.1)) :: (14, .d (.int .i64 i.2.1)) :: t) (fun i t => (1001, ⟨90, 5, [.d (.agg [(.bool i.2.2.Is), (.bool i.2.2.Rate.N.Neg), (.imm 1 (lenc (PD.int .i64) i.2.2.Rate.N.D)), (.bool i.2.2.Rate.D.Neg), (.imm 1 (lenc (PD.int .i64) i.2.2.Rate.D.D))])]⟩) :: t) hl_5 ?_ ?_; exact sch; clear hl_5
  rintro ⟨many2, k1, c2⟩ _ hb_7; unfold m_cocketref01_best_l1 at hb_7; try dsimp only at hb_7
  try dsimp only
  refine AWp.seq fun _ K_10 => ?_
  refine sg fun K k => ?_
  iterate 3 refine oo ?_
  refine AOps.nil (k _ ?_)
  refine cd hb_7 (fun hb_7 => ?_) (fun hb_7 => ?_)
  ·refine AWp.skip ?_
   refine K_10 _ ?_
   refine jn (α := (Int × Reach)) [0, 1, 2, 8, 11, 14] [1000] (fun i t => (12, .ptr 1001 0 0) :: (13, .d (.int .i64 i.1)) :: t) (fun i t => (1001, ⟨90, 5, [.d (.agg [(.bool i.2.Is), (.bool i.2.Rate.N.Neg), (.imm 1 (lenc (PD.int .i64) i.2.Rate.N.D)), (.bool i.2.Rate.D.Neg), (.imm 1 (lenc (PD.int .i64) i.2.Rate.D.D))])]⟩) :: t) hb_7 ?_ ?_
   ·intro _ hj_13
    refine AWp.block ?_
    refine sd mo fun K k => ?_
    obtain ⟨e1, ⟨f_14, f_15, f_16, f_17⟩, hj_13⟩ := idx_bind hj_13
    iterate 3 refine dd ?_
    refine dd ?_ (by intro K k; simp (disch := omega) only [go_sem, f_16, ↓reduceIte]; exact k)
    obtain ⟨e2, ⟨f_18, f_19, f_20, f_21⟩, hj_13⟩ := idx_bind hj_13
    iterate 3 refine dd ?_
    refine dd ?_ (by intro K k; simp (disch := omega) only [go_sem, f_20, ↓reduceIte]; exact k)
    refine dd ?_
    rcases bt e2.Is with hg_22 | hg_22
    ·rw [hg_22]
     rw [hg_22, cond_true] at hj_13
     iterate 4 refine dd ?_
     refine dd ?_ (by intro K k; simp (disch := omega) only [go_sem, f_16, ↓reduceIte]; exact k)
     iterate 3 refine dd ?_
     refine dd ?_ (by intro K k; simp (disch := omega) only [go_sem, f_20, ↓reduceIte]; exact k)
     obtain ⟨r2, hx_23, hj_13⟩ := bind_some hj_13
     refine dcl (m_cocketref01_better_ok c2 e2.Rate _ hx_23) ?_
     refine dd ?_
     refine DOps.nil (by kernel_rfl) (k _ ?_)
     refine cd hj_13 (fun hj_13 => ?_) (fun hj_13 => ?_)
     ·refine sg fun K k => ?_
      obtain ⟨e3, ⟨f_25, f_26, f_27, f_28⟩, hj_13⟩ := idx_bind hj_13
      iterate 3 refine oo ?_
      refine oo ?_ (by intro K k; simp (disch := omega) only [go_sem, f_27, ↓reduceIte]; exact k)
      obtain ⟨e4, ⟨f_29, f_30, f_31, f_32⟩, hj_13⟩ := idx_bind hj_13
      iterate 2 refine oo ?_
      refine oo ?_ (by intro K k; simp (disch := omega) only [go_sem, f_31, ↓reduceIte]; exact k)
      refine oo ?_
      refine AOps.nil (k _ ?_)
      refine AWp.reg ?_
      iterate 2 refine oo ?_
      refine AOps.nil ?_
      cases hj_13; exact sb
     ·refine AWp.skip ?_
      cases hj_13; exact sb
    ·rw [hg_22]
     rw [hg_22, cond_false] at hj_13
     iterate 11 refine dd ?_
     refine DOps.nil (by kernel_rfl) (k _ ?_)
     refine cdf ?_
     refine AWp.skip ?_
     cases hj_13; exact sb
   ·rintro ⟨many3, c3⟩ hb_7; dsimp only at hb_7 ⊢
    refine AWp.reg ?_
    iterate 3 refine oo ?_
    refine AOps.nil ?_
    exact ln hb_7 sb
  ·refine AWp.exit ?_
   refine lx hb_7 fun hx => ?_; cases hx; try dsimp only at h2_6
   cases h2_6; exact sb
 ·rintro ⟨many1, c1⟩ h; dsimp only at h ⊢
  refine AWp.seq fun _ K_42 => ?_
  refine sg fun K k => ?_
  iterate 3 refine oo ?_
  refine AOps.nil (k _ ?_)
  refine cd h (fun h => ?_) (fun h => ?_)
  ·refine sg fun K k => ?_
   iterate 4 refine oo ?_
   refine AOps.nil (k _ ?_)
   refine AWp.ret ?_
   cases h; exact rt
  ·refine AWp.skip ?_
   refine K_42 _ ?_
   refine sg fun K k => ?_
   refine oo ?_
   refine AOps.nil (k _ ?_)
   refine AWp.sub (Sub.void 15 3 1 1002 (by rfl) (by rfl) (by decide) (by decide)) ?_
   simp only [eput, hput, reduceCtorEq, ↓reduceIte, Nat.reduceAdd, Nat.reduceMul, Nat.reduceLT, Nat.reduceLeDiff, Nat.reduceEqDiff, Nat.reduceBEq, Int.reduceToNat]
   refine sg fun K k => ?_
   iterate 2 refine oo ?_
   refine AOps.nil (k _ ?_)
   refine sg fun K k => ?_
   iterate 4 refine oo ?_
   refine AOps.nil (k _ ?_)
   refine jn (α := (List Int)) [8, 12] [1000, 1001] (fun i t => (15, .slc 1002 0 i.length) :: t) (fun i t => (1002, ⟨3, 1, dl (lenc (PD.int .i64) i)⟩) :: t) h ?_ ?_
   ·intro _ hj_45
    refine AWp.block ?_
    obtain ⟨x_50, hl_47, h2_48⟩ := bind_some hj_45
    refine lp (S := (Int × (List Int) × Q)) [1, 8, 11, 12, 13] [1000, 1001] (fun i t => (15, .slc 1002 0 i.2.1.length) :: (16, .d (.int .i64 i.1)) :: (17, .ptr 1003 0 0) :: t) (fun i t => (1002, ⟨3, 1, dl (lenc (PD.int .i64) i.2.1)⟩) :: (1003, ⟨59, 4, [.d (.agg [(.bool i.2.2.N.Neg), (.imm 1 (lenc (PD.int .i64) i.2.2.N.D)), (.bool i.2.2.D.Neg), (.imm 1 (lenc (PD.int .i64) i.2.2.D.D))])]⟩) :: t) hl_47 ?_ ?_; exact sb; clear hl_47
    rintro ⟨at1, L2, c4⟩ _ hb_49; unfold m_cocketref01_best_l2 at hb_49; try dsimp only at hb_49
    try dsimp only
    refine AWp.seq fun _ K_52 => ?_
    refine sg fun K k => ?_
    iterate 4 refine oo ?_
    refine AOps.nil (k _ ?_)
    refine cd hb_49 (fun hb_49 => ?_) (fun hb_49 => ?_)
    ·refine AWp.skip ?_
     refine K_52 _ ?_
     refine AWp.block ?_
     refine sg fun K k => ?_
     refine oo ?_
     refine AOps.nil (k _ ?_)
     refine AWp.block ?_
     obtain ⟨x_58, hl_55, h2_56⟩ := bind_some hb_49
     refine lp (S := (Int × (List Int) × Q)) [1, 8, 11, 12, 13, 16] [1000, 1001] (fun i t => (15, .slc 1002 0 i.2.1.length) :: (17, .ptr 1003 0 0) :: (18, .d (.int .i64 i.1)) :: t) (fun i t => (1002, ⟨3, 1, dl (lenc (PD.int .i64) i.2.1)⟩) :: (1003, ⟨59, 4, [.d (.agg [(.bool i.2.2.N.Neg), (.imm 1 (lenc (PD.int .i64) i.2.2.N.D)), (.bool i.2.2.D.Neg), (.imm 1 (lenc (PD.int .i64) i.2.2.D.D))])]⟩) :: t) hl_55 ?_ ?_; exact sb; clear hl_55
     rintro ⟨i1, L3, c5⟩ _ hb_57; unfold m_cocketref01_best_l3 at hb_57; try dsimp only at hb_57
     try dsimp only
     refine AWp.seq fun _ K_60 => ?_
     refine sg fun K k => ?_
     iterate 4 refine oo ?_
     refine AOps.nil (k _ ?_)
     refine cd hb_57 (fun hb_57 => ?_) (fun hb_57 => ?_)
     ·refine AWp.skip ?_
      refine K_60 _ ?_
      refine AWp.seq fun _ K_62 => ?_
      refine AWp.block ?_
      refine sd mo fun K k => ?_
      obtain ⟨e7, ⟨f_63, f_64, f_65, f_66⟩, hb_57⟩ := idx_bind hb_57
      try simp only [Int.toNat_natCast] at f_65 f_66
      iterate 7 refine dd ?_
      refine dd ?_ (by intro K k; simp (disch := omega) only [go_sem, f_65, ↓reduceIte]; exact k)
      obtain ⟨e8, ⟨f_67, f_68, f_69, f_70⟩, hb_57⟩ := idx_bind hb_57
      iterate 4 refine dd ?_
      refine dd ?_ (by intro K k; simp (disch := omega) only [go_sem, f_69, ↓reduceIte]; exact k)
      obtain ⟨e9, ⟨f_71, f_72, f_73, f_74⟩, hb_57⟩ := idx_bind hb_57
      refine dd ?_
      refine dd ?_ (by intro K k; simp (disch := omega) only [go_sem, f_73, ↓reduceIte]; exact k)
      iterate 2 refine dd ?_
      refine DOps.nil (by kernel_rfl) (k _ ?_)
      refine sd mo fun K k => ?_
      obtain ⟨e10, ⟨f_75, f_76, f_77, f_78⟩, hb_57⟩ := idx_bind hb_57
      iterate 4 refine dd ?_
      refine dd ?_ (by intro K k; simp (disch := omega) only [go_sem, f_77, ↓reduceIte]; exact k)
      iterate 3 refine dd ?_
      rcases bt (decide (e10.From = at1)) with hg_79 | hg_79
      ·rw [hg_79]
       rw [hg_79, cond_true] at hb_57
       iterate 4 refine dd ?_
       rcases bt e9.Is with hg_80 | hg_80
       ·rw [hg_80]
        rw [hg_80, cond_true] at hb_57
        iterate 3 refine dd ?_
        refine dd ?_ (by intro K k; simp (disch := omega) only [go_sem, f_77, ↓reduceIte]; exact k)
        obtain ⟨r3, hx_81, hb_57⟩ := bind_some hb_57
        refine dcl (m_cocketref01_rate_ok e10 _ hx_81) ?_
        iterate 2 refine dd ?_
        obtain ⟨r4, hx_82, hb_57⟩ := bind_some hb_57
        refine dcl (m_cocketref01_Mul_ok r3 e9.Rate _ hx_82) ?_
        refine dd ?_
        obtain ⟨r5, hx_83, hb_57⟩ := bind_some hb_57
        refine dcl (m_cocketref01_Cmp_ok r4 c5 _ hx_83) ?_
        iterate 2 refine dd ?_
        refine DOps.nil (by kernel_rfl) (k _ ?_)
        refine cd hb_57 (fun hb_57 => ?_) (fun hb_57 => ?_)
        ·refine sg fun K k => ?_
         iterate 2 refine oo ?_
         refine ol ?_
         obtain ⟨hg_85, hb_57⟩ := guardO_some hb_57
         iterate 2 refine oo ?_
         refine AOps.nil (k _ ?_)
         refine sg fun K k => ?_
         obtain ⟨e11, ⟨f_86, f_87, f_88, f_89⟩, hb_57⟩ := idx_bind hb_57
         iterate 4 refine oo ?_
         refine oo ?_ (by intro K k; simp (disch := omega) only [go_sem, f_88, ↓reduceIte]; exact k)
         refine oo ?_
         refine AOps.nil (k _ ?_)
         refine sg fun K k => ?_
         iterate 3 refine oo ?_
         refine AOps.nil (k _ ?_)
         refine AWp.exit ?_
         refine lx hb_57 fun hx => ?_; cases hx; try dsimp only at h2_56
         exact ln h2_56 sb
        ·refine AWp.skip ?_
         refine K_62 _ ?_
         refine AWp.reg ?_
         iterate 3 refine oo ?_
         refine AOps.nil ?_
         exact ln hb_57 sb
       ·rw [hg_80]
        rw [hg_80, cond_false] at hb_57
        iterate 12 refine dd ?_
        refine DOps.nil (by kernel_rfl) (k _ ?_)
        refine cdf ?_
        refine AWp.skip ?_
        refine K_62 _ ?_
        refine AWp.reg ?_
        iterate 3 refine oo ?_
        refine AOps.nil ?_
        exact ln hb_57 sb
      ·rw [hg_79]
       rw [hg_79, cond_false] at hb_57
       iterate 16 refine dd ?_
       refine DOps.nil (by kernel_rfl) (k _ ?_)
       refine cdf ?_
       refine AWp.skip ?_
       refine K_62 _ ?_
       refine AWp.reg ?_
       iterate 3 refine oo ?_
       refine AOps.nil ?_
       exact ln hb_57 sb
     ·refine AWp.exit ?_
      refine lx hb_57 fun hx => ?_; cases hx; try dsimp only at h2_56
      exact ln h2_56 sb
    ·refine AWp.exit ?_
     refine lx hb_49 fun hx => ?_; cases hx; try dsimp only at h2_48
     cases h2_48; exact sb
   ·rintro L1 h; dsimp only at h ⊢
    refine sg fun K k => ?_
    iterate 6 refine oo ?_
    refine AOps.nil (k _ ?_)
    refine AWp.ret ?_
    cases h; exact rt
end Go.Pv.Tryd

namespace Go.Pv.Tryd
open Go.Proofs Go.Pv
theorem m_cocketref01_Needless_ok (n1 : Int) (l1 : (List Offer)) (r : ((List Int) × Int)) (h : m_cocketref01_Needless n1 l1 = some r) : PureFn Tryd.prog G 32 [.d (.int .i64 n1), .d (.imm 4 (lenc Offer.pd l1))] (.tuple [.d (.imm 1 (lenc (PD.int .i64) r.1)), .d (.int .i64 r.2)]) := by
 unfold m_cocketref01_Needless at h
 refine pf Tryd.func32 Tryd.ntmps32 ?_
 refine sg fun K k => ?_
 iterate 2 refine oo ?_
 refine AOps.nil (k _ ?_)
 refine sg fun K k => ?_
 iterate 2 refine oo ?_
 obtain ⟨r1, hx_1, h⟩ := bind_some h
 refine cl (m_cocketref01_Good_ok n1 l1 _ hx_1) ?_
 refine oo ?_
 refine AOps.nil (k _ ?_)
 refine AWp.seq fun _ K_2 => ?_
 refine sg fun K k => ?_
 iterate 2 refine oo ?_
 refine AOps.nil (k _ ?_)
 refine cd h (fun h => ?_) (fun h => ?_)
 ·refine sg fun K k => ?_
  iterate 3 refine oo ?_
  refine AOps.nil (k _ ?_)
  refine AWp.ret ?_
  cases h; exact rt
 ·refine AWp.skip ?_
  refine K_2 _ ?_
  refine sg fun K k => ?_
  iterate 2 refine oo ?_
  obtain ⟨r2, hx_4, h⟩ := bind_some h
  refine cl (m_cocketref01_gaining_ok n1 l1 _ hx_4) ?_
  iterate 5 refine oo ?_
  refine AOps.nil (k _ ?_)
  refine AWp.seq fun _ K_5 => ?_
  refine sg fun K k => ?_
  refine oo ?_
  refine AOps.nil (k _ ?_)
  refine cd h (fun h => ?_) (fun h => ?_)
  ·refine sg fun K k => ?_
   iterate 2 refine oo ?_
   refine AOps.nil (k _ ?_)
   refine AWp.ret ?_
   cases h; exact rt
  ·refine AWp.skip ?_
   refine K_5 _ ?_
   refine sg fun K k => ?_
   refine oo ?_
   refine AOps.nil (k _ ?_)
   refine AWp.sub (Sub.void 9 3 1 1000 (by rfl) (by rfl) (by decide) (by decide)) ?_
   simp only [eput, hput, reduceCtorEq, ↓reduceIte, Nat.reduceAdd, Nat.reduceMul, Nat.reduceLT, Nat.reduceLeDiff, Nat.reduceEqDiff, Nat.reduceBEq, Int.reduceToNat]
   refine jn (α := (List Int)) [] [] (fun i t => (9, .slc 1000 0 i.length) :: t) (fun i t => (1000, ⟨3, 1, dl (lenc (PD.int .i64) i)⟩) :: t) h ?_ ?_
   ·intro _ hj_8
    refine sg fun K k => ?_
    refine oo ?_
    refine AOps.nil (k _ ?_)
    refine AWp.block ?_
    obtain ⟨x_13, hl_10, h2_11⟩ := bind_some hj_8
    refine lp (S := (Int × (List Int))) [0, 1] [] (fun i t => (9, .slc 1000 0 i.2.length) :: (10, .d (.int .i64 i.1)) :: t) (fun i t => (1000, ⟨3, 1, dl (lenc (PD.int .i64) i.2)⟩) :: t) hl_10 ?_ ?_; exact sb; clear hl_10
    rintro ⟨i1, L2⟩ _ hb_12; unfold m_cocketref01_Needless_l1 at hb_12; try dsimp only at hb_12
    try dsimp only
    refine AWp.seq fun _ K_15 => ?_
    refine sg fun K k => ?_
    iterate 4 refine oo ?_
    refine AOps.nil (k _ ?_)
    refine cd hb_12 (fun hb_12 => ?_) (fun hb_12 => ?_)
    ·refine AWp.skip ?_
     refine K_15 _ ?_
     refine jn (α := (List Int)) [0, 1, 10] [] (fun i t => (9, .slc 1000 0 i.length) :: t) (fun i t => (1000, ⟨3, 1, dl (lenc (PD.int .i64) i)⟩) :: t) hb_12 ?_ ?_
     ·intro _ hj_18
      refine AWp.block ?_
      refine sg fun K k => ?_
      refine oo ?_
      refine AOps.nil (k _ ?_)
      refine AWp.sub (Sub.void 11 43 4 1001 (by rfl) (by rfl) (by decide) (by decide)) ?_
      simp only [eput, hput, reduceCtorEq, ↓reduceIte, Nat.reduceAdd, Nat.reduceMul, Nat.reduceLT, Nat.reduceLeDiff, Nat.reduceEqDiff, Nat.reduceBEq, Int.reduceToNat]
      refine sg fun K k => ?_
      obtain ⟨hg_19, hj_18⟩ := guardO_some hj_18
      obtain ⟨hg_20, hj_18⟩ := guardO_some hj_18
      iterate 6 refine oo ?_
      refine AOps.nil (k _ ?_)
      refine sg fun K k => ?_
      obtain ⟨hg_21, hj_18⟩ := guardO_some hj_18
      obtain ⟨hg_22, hj_18⟩ := guardO_some hj_18
      iterate 7 refine oo ?_
      refine AOps.nil (k _ ?_)
      refine AWp.sub (τ := ⟨[(0, .d (.int .i64 n1)), (1, .d (.imm 4 (lenc Offer.pd l1))), (9, .slc 1000 0 L2.length), (10, .d (.int .i64 i1)), (11, .d (.imm 4 (lenc Offer.pd ((l1.take ((i1 : Int) - 0).toNat) ++ ((l1.drop ((IntKind.i64.wrap (i1 + 1))).toNat).take (((l1.length : Int) : Int) - (IntKind.i64.wrap (i1 + 1))).toNat)))))], [(1000, ⟨3, 1, dl (lenc (PD.int .i64) L2)⟩)], [], none⟩) sc ?_
      refine sd mo fun K k => ?_
      obtain ⟨e1, ⟨f_23, f_24, f_25, f_26⟩, hj_18⟩ := idx_bind hj_18
      iterate 6 refine dd ?_
      refine dd ?_ (by intro K k; simp (disch := omega) only [go_sem, f_25, ↓reduceIte]; exact k)
      iterate 4 refine dd ?_
      refine dd ?_ (by intro K k; simp (disch := omega) only [go_sem, f_25, ↓reduceIte]; exact k)
      obtain ⟨r3, hx_27, hj_18⟩ := bind_some hj_18
      refine dcl (m_cocketref01_best_ok n1 ((l1.take ((i1 : Int) - 0).toNat) ++ ((l1.drop ((IntKind.i64.wrap (i1 + 1))).toNat).take (((l1.length : Int) : Int) - (IntKind.i64.wrap (i1 + 1))).toNat)) e1.From e1.To _ hx_27) ?_
      iterate 8 refine dd ?_
      refine DOps.nil (by kernel_rfl) (k _ ?_)
      refine sd mo fun K k => ?_
      iterate 2 refine dd ?_
      rcases bt r3.2.2 with hg_28 | hg_28
      ·rw [hg_28]
       rw [hg_28, cond_true] at hj_18
       obtain ⟨e2, ⟨f_29, f_30, f_31, f_32⟩, hj_18⟩ := idx_bind hj_18
       iterate 4 refine dd ?_
       refine dd ?_ (by intro K k; simp (disch := omega) only [go_sem, f_31, ↓reduceIte]; exact k)
       obtain ⟨r4, hx_33, hj_18⟩ := bind_some hj_18
       refine dcl (m_cocketref01_rate_ok e2 _ hx_33) ?_
       obtain ⟨r5, hx_34, hj_18⟩ := bind_some hj_18
       refine dcl (m_cocketref01_Cmp_ok r3.1 r4 _ hx_34) ?_
       iterate 2 refine dd ?_
       refine DOps.nil (by kernel_rfl) (k _ ?_)
       refine cd hj_18 (fun hj_18 => ?_) (fun hj_18 => ?_)
       ·refine AWp.reg ?_
        iterate 2 refine oo ?_
        refine ol ?_
        obtain ⟨hg_36, hj_18⟩ := guardO_some hj_18
        iterate 2 refine oo ?_
        refine AOps.nil ?_
        cases hj_18; exact sb
       ·refine AWp.skip ?_
        cases hj_18; exact sb
      ·rw [hg_28]
       rw [hg_28, cond_false] at hj_18
       iterate 9 refine dd ?_
       refine DOps.nil (by kernel_rfl) (k _ ?_)
       refine cdf ?_
       refine AWp.skip ?_
       cases hj_18; exact sb
     ·rintro L3 hb_12; dsimp only at hb_12 ⊢
      refine AWp.reg ?_
      iterate 3 refine oo ?_
      refine AOps.nil ?_
      exact ln hb_12 sb
    ·refine AWp.exit ?_
     refine lx hb_12 fun hx => ?_; cases hx; try dsimp only at h2_11
     cases h2_11; exact sb
   ·rintro L1 h; dsimp only at h ⊢
    refine sg fun K k => ?_
    iterate 3 refine oo ?_
    refine AOps.nil (k _ ?_)
    refine AWp.ret ?_
    cases h; exact rt
end Go.Pv.Tryd

namespace Go.Pv.Tryd
open Go.Proofs Go.Pv
theorem m_cocketlaw01_RateNeedless_ok (n1 : Int) (l1 : (List Offer)) (r : Bool) (h : m_cocketlaw01_RateNeedless n1 l1 = some r) : PureFn Tryd.prog G 8 [.d (.int .i64 n1), .d (.imm 4 (lenc Offer.pd l1))] (.d (.bool r)) := by
 unfold m_cocketlaw01_RateNeedless at h
 refine pf Tryd.func8 Tryd.ntmps8 ?_
 refine sg fun K k => ?_
 refine oo ?_
 refine AOps.nil (k _ ?_)
 refine AWp.seq fun _ K_1 => ?_
 refine sg fun K k => ?_
 refine oo ?_
 obtain ⟨r1, hx_2, h⟩ := bind_some h
 refine cl (m_cocketlaw01_few_ok l1 _ hx_2) ?_
 refine oo ?_
 refine AOps.nil (k _ ?_)
 refine cd h (fun h => ?_) (fun h => ?_)
 ·refine sg fun K k => ?_
  obtain ⟨r2, hx_4, h⟩ := bind_some h
  refine cl (m_cocketlaw01_alive_ok _ hx_4) ?_
  refine oo ?_
  refine AOps.nil (k _ ?_)
  refine AWp.ret ?_
  cases h; exact rt
 ·refine AWp.skip ?_
  refine K_1 _ ?_
  refine sg fun K k => ?_
  iterate 2 refine oo ?_
  obtain ⟨r3, hx_5, h⟩ := bind_some h
  refine cl (m_rate_Needless_ok n1 l1 _ hx_5) ?_
  iterate 5 refine oo ?_
  refine AOps.nil (k _ ?_)
  refine sg fun K k => ?_
  iterate 2 refine oo ?_
  obtain ⟨r4, hx_6, h⟩ := bind_some h
  refine cl (m_cocketref01_Needless_ok n1 l1 _ hx_6) ?_
  iterate 5 refine oo ?_
  refine AOps.nil (k _ ?_)
  refine sg fun K k => ?_
  iterate 2 refine oo ?_
  obtain ⟨r5, hx_7, h⟩ := bind_some h
  refine cl (m_cocketlaw01_same_ok r3.1 r4.1 _ hx_7) ?_
  refine oo ?_
  refine ct 4 [4] [] (fun  t => (32, .d (.bool (r5 && (decide (r3.2 = r4.2))))) :: t) ?_ ?_
  ·rcases bt r5 with hg_9 | hg_9
   ·rw [hg_9]
    iterate 4 refine oo ?_
    refine AOps.nil ?_
    exact sb
   ·rw [hg_9]
    iterate 4 refine oo ?_
    refine AOps.nil ?_
    exact sb
  refine oo ?_
  obtain ⟨b1, hc_10, h⟩ := bind_some h
  refine ct 2 [4] [] (fun  t => (35, .d (.bool b1)) :: t) ?_ ?_
  ·rcases bt (r5 && (decide (r3.2 = r4.2))) with hg_12 | hg_12
   ·rw [hg_12]
    rw [hg_12, cond_true] at hc_10
    obtain ⟨r6, hx_11, hc_10⟩ := bind_some hc_10
    refine cl (m_cocketlaw01_alive_ok _ hx_11) ?_
    refine oo ?_
    refine AOps.nil ?_
    cases hc_10
    exact sb
   ·rw [hg_12]
    rw [hg_12, cond_false] at hc_10
    iterate 2 refine oo ?_
    refine AOps.nil ?_
    cases hc_10
    exact sb
  refine oo ?_
  refine AOps.nil (k _ ?_)
  refine AWp.ret ?_
  cases h; exact rt
end Go.Pv.Tryd

namespace Go.Pv.Tryd
open Go Go.Proofs Go.Pv Go.ChangeShapes Go.WideShapes Go.ChangeAt Go.RowKit Go.Proofs.YtmnemlihimnofaaDoor
set_option maxRecDepth 100000 in
theorem needless_lifted (os : Os) (started : os.Started) (H : Type) (enc : TypeId × Value → H) :
    ReturnsInHanded {} Tryd.checked os 8 .any (fun w args => (Rows.rateNeedlessSpec.pre enc Tryd.prog Tryd.f8 [] false w args ∧ laidMetH Tryd.prog laid1 w) ∧ sizedMet enc Tryd.prog Tryd.f8 (OpenSpec.ofChange Rows.rateNeedlessSpec) false w args)
      (Rows.rateNeedlessSpec.post enc Tryd.prog Tryd.f8 false true false false) := by
  refine returnsInHanded_of_change_and (C := Tryd.checked) (X := fun w _ => laidMetH Tryd.prog laid1 w) (fun _ _ _ hh h => h.of_heap hh) own started (by kernel_rfl) Tryd.func8
    (ChangeSpec.witness_shaped (enc := enc) (C := Tryd.checked) (os := os) (X := fun w _ => laidMetH Tryd.prog laid1 w) false (World.doorLaid Tryd.prog 400 os) #[.int .i64 0, .slice none 0 0] 8 rfl (World.shaped_of_RefB (by kernel_rfl) (by kernel_rfl)) (by kernel_rfl) (by kernel_rfl) (by kernel_rfl) (door_met os _)) ?_
  intro W base args ds gs before hval0 hW _ _ hL _
  have hval : ∀ (j : Nat) t v, Tryd.f8.params[j]? = some t → args[j]? = some v → Value.okWide Tryd.prog W .any base t v := hval0
  have hW' := hW
  obtain ⟨p, q, hA0, hV, rfl, hfz, hnd⟩ := hW
  have hA : DataW.TrodAll enc Tryd.prog W 0 (fun _ => true) true Tryd.f8.params.toList args.toList ds p := hA0
  obtain ⟨rfl, rfl⟩ := trodVars_none hV
  rw [Tryd.params8] at hA hval
  obtain ⟨v0, vs0, d0, ds0, p0, q0, ha, rfl, rfl, t0, hA⟩ := trodAll_cons hA
  obtain ⟨v1, vs1, d1, ds1, p1, q1, rfl, rfl, rfl, t1, hA⟩ := trodAll_cons hA
  obtain ⟨rfl, rfl, rfl⟩ := trodAll_nil hA
  have hargs : args = #[v0, v1] := Array.toList_inj.1 ha
  subst hargs
  obtain ⟨x0, r0⟩ := rep_arg_int Tryd.underlying3 (hval 0 3 v0 rfl rfl)
  obtain ⟨x1, r1⟩ := rep_arg_slice Tryd.underlying22 opens_Offer (by decide) (hval 1 22 v1 rfl rfl) t1
  have hw := calls_of_pure (args := [.int .i64 x0, .imm 4 (lenc Offer.pd x1)]) (vs := [v0, v1]) (m_cocketlaw01_RateNeedless_ok x0 x1 true (RateNeedless_law x0 x1)) rfl (fun i hi => by
    match i, hi with
    | 0, _ => exact r0
    | 1, _ => exact r1) (glob_of_laid hL)
  refine hw.mono fun e W' ⟨he, hs⟩ => ?_
  subst he
  exact ⟨_, rfl, law_post rfl hW' hs rfl (t := 4) (by rfl) Tryd.underlying4 laidOut (by kernel_rfl)⟩
theorem needless_said : Rows.RateNeedlessSaid :=
  OpenClaim.holds_of_wide 8 Tryd.f8 rfl rfl rfl rfl rfl rfl rfl ⟨rfl, rfl, rfl, rfl, rfl⟩ rfl rfl rfl rfl rfl (by kernel_rfl) Tryd.func8 (by kernel_rfl)
    (of_decide_eq_true (by kernel_rfl)) (by unfold Func.isWrapper; first | (rw [if_pos (by decide +kernel)]; kernel_rfl) | (rw [if_neg (by decide +kernel)]; exact ⟨rfl, rfl⟩))
    (fun os started H enc _ => needless_lifted os started H enc)
theorem needless_card : Rows.RateNeedlessCardSaid :=
  Claim7.holds_tied_plain_at .later [] [.data] true Rows.rateNeedlessCard.stood.harness false
    needless_said (fun _ h => by cases h) (by kernel_rfl) (fun _ h => by cases h) rateNeedless_row_tie rfl ⟨rfl, rfl⟩ (by kernel_rfl) rfl
    (fun f fn hf hfn => by
      obtain rfl : f = 8 := Option.some.inj ((show Tryd.prog.funcNamed Rows.rateNeedlessRow.func = some 8 by kernel_rfl).symm.trans hf) |>.symm
      obtain rfl : fn = Tryd.f8 := (Option.some.inj (Tryd.func8.symm.trans hfn)).symm
      exact ⟨by kernel_rfl, fun j t ht => by
        rw [Tryd.params8] at ht
        have hm : t ∈ [3, 22] := by simpa using Array.mem_of_getElem? ht
        have hall : ([3, 22].all fun u => !Tryd.prog.wantsStandIn u) = true := by kernel_rfl
        exact (show Tryd.prog.wantsStandIn t = false by simpa using List.all_eq_true.1 hall t hm)⟩)
    (by kernel_rfl)
end Go.Pv.Tryd

namespace Go.Proofs.YtmnemlihimnofaaDoor

theorem needless_card : Rows.RateNeedlessCardSaid := Go.Pv.Tryd.needless_card

#print axioms needless_card

end Go.Proofs.YtmnemlihimnofaaDoor
