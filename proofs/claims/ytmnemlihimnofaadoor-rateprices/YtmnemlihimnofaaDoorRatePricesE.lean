/- RatePrices answers true for every input, as its tied card says: under the conditions of the card (Rows, Cards, Tie), no more. Part 5 of 6: by one AI agent and its programs; no person has read it. -/
import Derived.Test.YtmnemlihimnofaaDoorRatePricesA
import Derived.Test.YtmnemlihimnofaaDoorRatePricesB
import Derived.Test.YtmnemlihimnofaaDoorRatePricesC
import Derived.Test.YtmnemlihimnofaaDoorRatePricesD
set_option linter.unusedSimpArgs false
set_option linter.unusedVariables false
set_option linter.all false

set_option linter.unusedSimpArgs false
set_option linter.unusedVariables false
namespace Go.Pv.Tryd
open Go.Proofs Go.Pv
def addOf (offers : List Offer) (frm length : Int) (rounds : Bool) (k : Nat) (w : Walk) (s : List Bool) (oi : Offer × Nat) : List Walk :=
  if walkSkip frm length rounds w (s.set w.to.toNat true) oi.1 = true then []
  else walkOn offers frm length rounds k ⟨w.list ++ [(oi.2 : Int)], timesN w.rate (ratioN oi.1.Num oi.1.Den), oi.1.To⟩ (s.set w.to.toNat true)
def ysOf (offers : List Offer) (frm length : Int) (rounds : Bool) (k : Nat) (w : Walk) (s : List Bool) (i : Nat) : List Walk := (offers.zipIdx.take i).flatMap (addOf offers frm length rounds k w s)
theorem ysOf_zero (offers : List Offer) (frm length : Int) (rounds : Bool) (k : Nat) (w : Walk) (s : List Bool) : ysOf offers frm length rounds k w s 0 = [] := rfl
theorem ysOf_succ {offers : List Offer} {frm length : Int} {rounds : Bool} {k : Nat} {w : Walk} {s : List Bool} {i : Nat} {o : Offer} (h : offers[i]? = some o) :
    ysOf offers frm length rounds k w s (i + 1) = ysOf offers frm length rounds k w s i ++ addOf offers frm length rounds k w s (o, i) := by
  have hz : offers.zipIdx[i]? = some (o, i) := by simp [List.getElem?_zipIdx, h]
  unfold ysOf
  rw [List.take_add_one, hz]
  simp [List.flatMap_append]
theorem ysOf_all (offers : List Offer) (frm length : Int) (rounds : Bool) (k : Nat) (w : Walk) (s : List Bool) : ysOf offers frm length rounds k w s offers.length = offers.zipIdx.flatMap (addOf offers frm length rounds k w s) := by
  unfold ysOf
  rw [List.take_of_length_le (by simp)]
theorem ysOf_pre {offers : List Offer} {frm length : Int} {rounds : Bool} {k : Nat} {w : Walk} {s : List Bool} {i : Nat} : ∃ r, offers.zipIdx.flatMap (addOf offers frm length rounds k w s) = ysOf offers frm length rounds k w s i ++ r := by
  refine ⟨(offers.zipIdx.drop i).flatMap (addOf offers frm length rounds k w s), ?_⟩
  unfold ysOf
  rw [← List.flatMap_append, List.take_append_drop]
def headOn (m : Market) (frm length : Int) (rounds : Bool) (l : Nat) (all xs : List PD) (k : Nat) (w : Walk) (s : List Bool) (i : Nat) : St :=
  ⟨[(1, .dptr 1 [.int .i64 length] 0 0), (2, .dptr 1 [.int .i64 frm] 0 0), (3, .dptr 1 [.bool rounds] 0 0), (5, .ptr 2 0 0), (7, .ptr 4 0 0), (8, .ptr 1000 0 0), (35, .d (.imm 4 (lenc Offer.pd m.offers))), (36, .d (.int .i64 m.offers.length)), (37, .d (.int .i64 i))],
   heapIn m frm length rounds l m.n.toNat (s.set w.to.toNat true) w, [.func (.func 95) [.ptr 2 0 0, .ptr 1000 0 0]], some (l, all, xs ++ lenc Walk.pd (ysOf m.offers frm length rounds k w s i), true)⟩
theorem heapIn_refs (m : Market) (frm length : Int) (rounds : Bool) (l n : Nat) (s : List Bool) (w : Walk) : heapRefs (heapIn m frm length rounds l n s w) (heapIn m frm length rounds l n s w) := by
  simp only [heapIn, capsOn, go_sem, ↓reduceIte]
theorem on_step (m : Market) (frm length : Int) (rounds : Bool) (l : Nat) (all : List PD) (hpre : walksPre m frm length rounds = true) (k : Nat) (w : Walk) (s : List Bool) (xs : List PD) (hk : OnOk m length w s (k + 1)) (he : ¬ (w.list.length : Int) = length)
    (ih : ∀ (w' : Walk) (s' : List Bool) (xs' : List PD), OnOk m length w' s' k → xs' ++ lenc Walk.pd (walkOn m.offers frm length rounds k w' s') <+: all →
      FnG Tryd.prog G 94 (.d w'.pd :: capsOn m frm length rounds) (heapOn m frm length rounds l m.n.toNat s') (some (l, all, xs', true)) (OnPost (lenc Walk.pd (walkOn m.offers frm length rounds k w' s')) (heapOn m frm length rounds l m.n.toNat s') l all xs'))
    (hall : xs ++ lenc Walk.pd (walkOn m.offers frm length rounds (k + 1) w s) <+: all) :
    FnG Tryd.prog G 94 (.d w.pd :: capsOn m frm length rounds) (heapOn m frm length rounds l m.n.toNat s) (some (l, all, xs, true)) (OnPost (lenc Walk.pd (walkOn m.offers frm length rounds (k + 1) w s)) (heapOn m frm length rounds l m.n.toNat s) l all xs) := by
  have hw : walkOn m.offers frm length rounds (k + 1) w s = m.offers.zipIdx.flatMap (addOf m.offers frm length rounds k w s) := by rw [walkOn, if_neg he]; rfl
  rw [hw] at hall ⊢
  have hf : s[w.to.toNat]? = some false := hk.free.resolve_right he
  have hto : w.to.toNat < s.length := by rw [hk.len]; have := hk.to1; have := hk.to2; omega
  have hn : s.length = m.n.toNat := hk.len
  have ht1 := hk.to1
  have ht2 := hk.to2
  refine on_less ?_
  refine FnG.introD Tryd.func94 (by rfl) (by rw [Tryd.ntmps94]; simp [capsOn]) ?_
  rw [Tryd.ntmps94]
  simp only [argEnv, capsOn, heapOn, Nat.reduceAdd]
  refine AWp.seq fun K hK => AWp.reg ?_
  iterate 2 (refine AOps.consU fun K' hK' => ?_; simp (disch := omega) only [go_sem, ↓reduceIte]; refine hK' _ ?_; clear hK' K')
  refine AOps.nil ?_
  simp only [Post.then]
  refine hK _ ?_; clear hK K
  refine AWp.seq fun K hK => ?_
  refine AWp.seq fun K2 hK2 => AWp.reg ?_
  iterate 5 (refine AOps.consU fun K' hK' => ?_; simp (disch := omega) only [go_sem, ↓reduceIte]; refine hK' _ ?_; clear hK' K')
  refine AOps.nil ?_
  simp only [Post.then]
  refine hK2 _ ?_; clear hK2 K2
  refine AWp.cond (b := decide ((w.list.length : Int) = length)) (by rfl) (fun hb => ?_) (fun hb => ?_)
  · exact absurd (by simpa using hb) he
  refine AWp.skip ?_
  simp only [Post.then, Post.inBlock]
  refine hK _ ?_; clear hK K
  -- seen
  have hget : s[w.to.toNat]? = some s[w.to.toNat] := List.getElem?_eq_getElem hto
  refine AWp.seq fun K hK => AWp.reg ?_
  iterate 5 (refine AOps.consU fun K' hK' => ?_; simp (disch := omega) only [go_sem, hget, ↓reduceIte]; refine hK' _ ?_; clear hK' K')
  refine AOps.nil ?_
  simp only [Post.then]
  refine hK _ ?_; clear hK K
  -- the deferred call
  refine AWp.seq fun K hK => AWp.reg ?_
  iterate 1 (refine AOps.consU fun K' hK' => ?_; simp (disch := omega) only [go_sem, ↓reduceIte]; refine hK' _ ?_; clear hK' K')
  refine AOps.consC (by simp only [go_sem]) fun K' hK' => ?_
  simp (disch := omega) only [go_sem, ↓reduceIte]
  refine OpT.defer (by rfl) (by rfl) (by rfl) (by rfl) (by simp only [go_sem]) ?_
  simp only [go_sem, ↓reduceIte]; refine hK' _ ?_; clear hK' K'
  refine AOps.nil ?_
  simp only [Post.then]
  refine hK _ ?_; clear hK K
  -- the loop
  refine AWp.seqI (fun _ : Unit => headOn m frm length rounds l all xs k w s m.offers.length) (fun _ => True) ?_ ?_
  rotate_left
  · rintro ⟨⟩ _
    simp only [headOn]
    refine AWp.seq fun K hK => AWp.reg ?_
    iterate 1 (refine AOps.consU fun K' hK' => ?_; simp (disch := omega) only [go_sem, ↓reduceIte]; refine hK' _ ?_; clear hK' K')
    refine AOps.nil ?_
    simp only [Post.then]
    refine hK _ ?_; clear hK K
    refine AWp.ret ?_
    refine on_leave (c := true) (by rfl) rfl hn ⟨ht1, ht2⟩ hf ⟨⟨rfl, rfl, rfl, rfl, trivial⟩, .inl ⟨rfl, ?_⟩⟩
    rw [ysOf_all]
  refine AWp.seq fun K hK => AWp.reg ?_
  iterate 4 (refine AOps.consU fun K' hK' => ?_; simp (disch := omega) only [go_sem, ↓reduceIte]; refine hK' _ ?_; clear hK' K')
  refine AOps.nil ?_
  simp only [Post.then]
  refine hK _ ?_; clear hK K
  refine AWp.block ?_
  refine AWp.loopI (fun i : Nat => headOn m frm length rounds l all xs k w s i) (fun i => i ≤ m.offers.length) (fun i => m.offers.length - i) 0 (Nat.zero_le _) ?_ ?_
  · refine Sub.mk ⟨rfl, rfl, rfl, rfl, rfl, rfl, rfl, rfl, rfl, trivial⟩ ⟨rfl, rfl, rfl, rfl, rfl, trivial⟩ ⟨trivial, trivial, trivial, rfl, rfl, rfl, trivial, trivial, trivial, trivial⟩ (heapIn_refs ..) ⟨rfl, ?_, ?_⟩
    · simp only [headOn, heapIn, go_sem, ↓reduceIte]
    · simp [headOn, ysOf_zero, lenc]
  · intro i hi
    simp only [headOn, heapIn]
    refine AWp.seq fun K hK => AWp.reg ?_
    iterate 1 (refine AOps.consU fun K' hK' => ?_; simp (disch := omega) only [go_sem, ↓reduceIte]; refine hK' _ ?_; clear hK' K')
    refine AOps.nil ?_
    simp only [Post.then]
    refine hK _ ?_; clear hK K
    refine AWp.seq fun K hK => ?_
    refine AWp.cond (b := decide ((i : Int) < m.offers.length)) (by rfl) (fun hb => ?_) (fun hb => ?_)
    rotate_left
    · have hi2 : i = m.offers.length := by
        have : ¬ (i : Int) < m.offers.length := by simpa using hb
        omega
      subst hi2
      refine AWp.exit ?_
      simp only [Post.then, Post.inBlock, ↓reduceIte]
      refine ⟨(), trivial, ?_⟩
      exact Sub.mk ⟨rfl, rfl, rfl, rfl, rfl, rfl, rfl, rfl, rfl, trivial⟩ ⟨rfl, rfl, rfl, rfl, rfl, trivial⟩ ⟨trivial, trivial, trivial, rfl, rfl, rfl, trivial, trivial, trivial, trivial⟩ (heapIn_refs ..) ⟨rfl, by simp only [headOn, heapIn, go_sem, ↓reduceIte], rfl⟩
    have hi2 : i < m.offers.length := by
      have : (i : Int) < m.offers.length := by simpa using hb
      omega
    obtain ⟨o, ho⟩ : ∃ o, m.offers[i]? = some o := ⟨_, List.getElem?_eq_getElem hi2⟩
    have hgo : goodOffer m.n o = true := by
      simp only [walksPre, Bool.and_eq_true, List.all_eq_true] at hpre
      exact hpre.2 o (List.mem_of_getElem? ho)
    have hyd : ∀ (σ' : St), Sub G 94 σ' (headOn m frm length rounds l all xs k w s (i + 1)) → ∃ i', i' ≤ m.offers.length ∧ m.offers.length - i' < m.offers.length - i ∧ Sub G 94 σ' (headOn m frm length rounds l all xs k w s i') := fun σ' h => ⟨i + 1, by omega, by omega, h⟩
    refine AWp.skip ?_
    simp only [Post.then, Post.inBlock]
    refine hK _ ?_; clear hK K
    refine AWp.seq fun K hK => ?_
    refine AWp.block ?_
    refine AWp.seq fun K2 hK2 => AWp.reg ?_
    iterate 6 (refine AOps.consU fun K' hK' => ?_; simp (disch := omega) only [go_sem, ho, Int.toNat_natCast, ↓reduceIte]; refine hK' _ ?_; clear hK' K')
    refine AOps.nil ?_
    simp only [Post.then]
    refine hK2 _ ?_; clear hK2 K2
    refine AWp.seq fun K2 hK2 => AWp.reg ?_
    iterate 7 (refine AOps.consU fun K' hK' => ?_; simp (disch := omega) only [go_sem, ↓reduceIte]; refine hK' _ ?_; clear hK' K')
    refine AOps.nil ?_
    simp only [Post.then]
    refine hK2 _ ?_; clear hK2 K2
    refine AWp.seq fun K2 hK2 => ?_
    refine AWp.seq fun K3 hK3 => AWp.reg ?_
    simp only [goodOffer, decide_eq_true_eq] at hgo
    obtain ⟨hg1, hg2, hg3, hg4, hg5, hg6, hg7, hg8⟩ := hgo
    have hto2 : o.To.toNat < (s.set w.to.toNat true).length := by rw [List.length_set, hn]; omega
    have hse : (s.set w.to.toNat true)[o.To.toNat]? = some ((s.set w.to.toNat true).getD o.To.toNat false) := by
      simp only [List.getD, List.getElem?_eq_getElem hto2, Option.getD_some]
    have hwl : w.list.length ≤ 1000 := by
      have := hk.k1
      simp only [walksPre, Bool.and_eq_true, decide_eq_true_eq] at hpre
      omega
    have hra : m_rate_ratio o.Num o.Den = some (ratioN o.Num o.Den) := ratio_some _ _ ⟨hg5, by omega⟩ ⟨hg7, by omega⟩
    have hgcd : 0 < Int.gcd o.Num o.Den := Int.gcd_pos_of_ne_zero_left _ (by omega)
    have hrn : 1 ≤ (ratioN o.Num o.Den).Num ∧ (ratioN o.Num o.Den).Num ≤ 50 ∧ 1 ≤ (ratioN o.Num o.Den).Den ∧ (ratioN o.Num o.Den).Den ≤ 50 := ratioN_bounds ⟨hg5, hg6⟩ ⟨hg7, hg8⟩
    have hp6 : (50 : Int) ^ w.list.length ≤ 15625000000 := by
      have hl : w.list.length ≤ 5 := by
        have := hk.k1
        simp only [walksPre, Bool.and_eq_true, decide_eq_true_eq] at hpre
        omega
      have : ∀ n : Nat, n ≤ 5 → (50 : Int) ^ n ≤ 15625000000 := by decide
      exact this _ hl
    have hti : m_rate_times w.rate (ratioN o.Num o.Den) = some (timesN w.rate (ratioN o.Num o.Den)) := by
      have b1 := hk.num1
      have b2 := hk.num2
      have b3 := hk.den1
      have b4 := hk.den2
      have m1 := mul_bounds (x := w.rate.Num) (y := (ratioN o.Num o.Den).Num) (a := 15625000000) (b := 50) ⟨by omega, by omega⟩ ⟨by omega, by omega⟩
      have m2 := mul_bounds (x := w.rate.Den) (y := (ratioN o.Num o.Den).Den) (a := 15625000000) (b := 50) ⟨by omega, by omega⟩ ⟨by omega, by omega⟩
      exact times_some _ _ ⟨by omega, by omega⟩ ⟨by omega, by omega⟩ ⟨by omega, by omega⟩ ⟨by omega, by omega⟩ (by omega) (by omega)
    have wl : IntKind.i64.wrap (length - 1) = length - 1 := by
      simp only [walksPre, Bool.and_eq_true, decide_eq_true_eq] at hpre
      exact wrap_i64_eq (by omega)
    have hlen2 : o.To < ((m.n.toNat : Nat) : Int) := by omega
    refine AOps.cut 25 (⟨[(1, .dptr 1 [.int .i64 length] 0 0), (2, .dptr 1 [.int .i64 frm] 0 0), (3, .dptr 1 [.bool rounds] 0 0), (5, .ptr 2 0 0), (7, .ptr 4 0 0), (8, .ptr 1000 0 0), (10, .d (.int .i64 i)), (11, .ptr 1001 0 0), (35, .d (.imm 4 (lenc Offer.pd m.offers))), (36, .d (.int .i64 m.offers.length)), (37, .d (.int .i64 i)), (72, .d (.bool (walkSkip frm length rounds w (s.set w.to.toNat true) o)))],
      heapIn m frm length rounds l m.n.toNat (s.set w.to.toNat true) w ++ [(1001, ⟨43, 4, [.d o.pd]⟩)], [.func (.func 95) [.ptr 2 0 0, .ptr 1000 0 0]], some (l, all, xs ++ lenc Walk.pd (ysOf m.offers frm length rounds k w s i), true)⟩) ?_ ?_
    · simp only [List.take_succ_cons, List.take_zero]
      rcases Bool.eq_false_or_eq_true (decide (¬o.From = w.to)) with c1 | c1
      · have hsk : walkSkip frm length rounds w (s.set w.to.toNat true) o = true := by simp only [walkSkip, c1, Bool.true_or]
        rw [hsk]
        iterate 25 (refine AOps.consU fun K' hK' => ?_; simp (disch := omega) only [go_sem, hse, c1, ↓reduceIte]; refine hK' _ ?_; clear hK' K')
        refine AOps.nil ?_
        exact Sub.mk ⟨rfl, rfl, rfl, rfl, rfl, rfl, rfl, rfl, rfl, rfl, rfl, rfl, trivial⟩ ⟨rfl, rfl, rfl, rfl, rfl, rfl, trivial⟩ ⟨trivial, trivial, trivial, rfl, rfl, rfl, trivial, rfl, trivial, trivial, trivial, trivial, trivial⟩ (by simp only [heapIn, capsOn, go_sem, ↓reduceIte]) ⟨rfl, by simp only [heapIn, go_sem, ↓reduceIte], rfl⟩
      rcases Bool.eq_false_or_eq_true ((s.set w.to.toNat true).getD o.To.toNat false) with c2 | c2
      rotate_left
      · have hsk : walkSkip frm length rounds w (s.set w.to.toNat true) o = false := by simp only [walkSkip, c1, c2, Bool.false_and, Bool.or_false]
        rw [hsk]
        iterate 25 (refine AOps.consU fun K' hK' => ?_; simp (disch := omega) only [go_sem, hse, c1, c2, ↓reduceIte]; refine hK' _ ?_; clear hK' K')
        refine AOps.nil ?_
        exact Sub.mk ⟨rfl, rfl, rfl, rfl, rfl, rfl, rfl, rfl, rfl, rfl, rfl, rfl, trivial⟩ ⟨rfl, rfl, rfl, rfl, rfl, rfl, trivial⟩ ⟨trivial, trivial, trivial, rfl, rfl, rfl, trivial, rfl, trivial, trivial, trivial, trivial, trivial⟩ (by simp only [heapIn, capsOn, go_sem, ↓reduceIte]) ⟨rfl, by simp only [heapIn, go_sem, ↓reduceIte], rfl⟩
      rcases Bool.eq_false_or_eq_true rounds with c3 | c3
      rotate_left
      · subst c3
        have hsk : walkSkip frm length false w (s.set w.to.toNat true) o = true := by simp only [walkSkip, c1, c2, Bool.false_and, Bool.not_false, Bool.and_true, Bool.or_true]
        rw [hsk]
        iterate 25 (refine AOps.consU fun K' hK' => ?_; simp (disch := omega) only [go_sem, hse, c1, c2, ↓reduceIte]; refine hK' _ ?_; clear hK' K')
        refine AOps.nil ?_
        exact Sub.mk ⟨rfl, rfl, rfl, rfl, rfl, rfl, rfl, rfl, rfl, rfl, rfl, rfl, trivial⟩ ⟨rfl, rfl, rfl, rfl, rfl, rfl, trivial⟩ ⟨trivial, trivial, trivial, rfl, rfl, rfl, trivial, rfl, trivial, trivial, trivial, trivial, trivial⟩ (by simp only [heapIn, capsOn, go_sem, ↓reduceIte]) ⟨rfl, by simp only [heapIn, go_sem, ↓reduceIte], rfl⟩
      subst c3
      rcases Bool.eq_false_or_eq_true (decide ((w.list.length : Int) = length - 1)) with c4 | c4
      rotate_left
      · have hsk : walkSkip frm length true w (s.set w.to.toNat true) o = true := by simp only [walkSkip, c1, c2, c4, Bool.and_false, Bool.false_and, Bool.not_false, Bool.and_true, Bool.or_true]
        rw [hsk]
        iterate 25 (refine AOps.consU fun K' hK' => ?_; simp (disch := omega) only [go_sem, hse, c1, c2, c4, wl, ↓reduceIte]; refine hK' _ ?_; clear hK' K')
        refine AOps.nil ?_
        exact Sub.mk ⟨rfl, rfl, rfl, rfl, rfl, rfl, rfl, rfl, rfl, rfl, rfl, rfl, trivial⟩ ⟨rfl, rfl, rfl, rfl, rfl, rfl, trivial⟩ ⟨trivial, trivial, trivial, rfl, rfl, rfl, trivial, rfl, trivial, trivial, trivial, trivial, trivial⟩ (by simp only [heapIn, capsOn, go_sem, ↓reduceIte]) ⟨rfl, by simp only [heapIn, go_sem, ↓reduceIte], rfl⟩
      · have hsk : walkSkip frm length true w (s.set w.to.toNat true) o = !(decide (o.To = frm)) := by simp only [walkSkip, c1, c2, c4, Bool.true_and, Bool.and_true, Bool.false_or]
        rw [hsk]
        iterate 25 (refine AOps.consU fun K' hK' => ?_; simp (disch := omega) only [go_sem, hse, c1, c2, c4, wl, ↓reduceIte]; refine hK' _ ?_; clear hK' K')
        refine AOps.nil ?_
        exact Sub.mk ⟨rfl, rfl, rfl, rfl, rfl, rfl, rfl, rfl, rfl, rfl, rfl, rfl, trivial⟩ ⟨rfl, rfl, rfl, rfl, rfl, rfl, trivial⟩ ⟨trivial, trivial, trivial, rfl, rfl, rfl, trivial, rfl, trivial, trivial, trivial, trivial, trivial⟩ (by simp only [heapIn, capsOn, go_sem, ↓reduceIte]) ⟨rfl, by simp only [heapIn, go_sem, ↓reduceIte], rfl⟩
    simp only [List.drop_succ_cons, List.drop_zero, heapIn, List.cons_append, List.nil_append]
    refine AOps.nil ?_
    simp only [Post.then]
    refine hK3 _ ?_; clear hK3 K3
    refine AWp.cond (b := walkSkip frm length rounds w (s.set w.to.toNat true) o) (by rfl) (fun hb => ?_) (fun hb => ?_)
    · refine AWp.exit ?_
      simp only [Post.then, Post.inBlock, ↓reduceIte]
      refine hK _ ?_; clear hK2 K2 hK K
      refine AWp.reg ?_
      iterate 2 (refine AOps.consU fun K' hK' => ?_; simp (disch := omega) only [go_sem, ↓reduceIte]; refine hK' _ ?_; clear hK' K')
      refine AOps.nil ?_
      simp only [Post.then]
      refine hyd _ ?_
      have hys : ysOf m.offers frm length rounds k w s (i + 1) = ysOf m.offers frm length rounds k w s i := by
        rw [ysOf_succ ho]; simp only [addOf, hb, if_true, List.append_nil]
      have hwi : IntKind.i64.wrap ((i : Int) + 1) = ((i + 1 : Nat) : Int) := by
        simp only [walksPre, Bool.and_eq_true, decide_eq_true_eq] at hpre
        rw [wrap_i64_eq (by omega)]; omega
      rw [hwi]
      exact Sub.mk ⟨rfl, rfl, rfl, rfl, rfl, rfl, rfl, rfl, rfl, trivial⟩ ⟨rfl, rfl, rfl, rfl, rfl, trivial⟩ ⟨trivial, trivial, trivial, rfl, rfl, rfl, trivial, trivial, trivial, trivial⟩ (heapIn_refs ..) ⟨rfl, by simp only [headOn, heapIn, go_sem, ↓reduceIte], by simp only [headOn, hys]⟩
    · refine AWp.skip ?_
      simp only [Post.then, Post.inBlock]
      refine hK2 _ ?_; clear hK2 K2
      refine AWp.seq fun K2 hK2 => AWp.draw mo [(1002, [76, 79, 90])] ⟨by rfl, trivial⟩ ?_
      iterate 3 (refine DOps.consU fun K' hK' => ?_; simp (disch := omega) only [go_sem, exE, exOk, Key.among, Cont.rows, rowsOf, rowsOfL, capsOn, false_or, or_true, true_or, or_false, List.contains_cons, List.contains_nil, ↓reduceIte]; refine hK' _ _ ?_; clear hK' K'; simp only [List.nil_append, List.cons_append])
      refine DOps.consC fun K' hK' => ?_
      simp (disch := omega) only [go_sem, ↓reduceIte]
      refine OpX.callRow 1002 (by rfl) (by rfl) (by kernel_rfl) (clone_fn w.list hwl) (by exact ⟨rfl, trivial⟩) (by simp only [go_sem, ↓reduceIte]) (by rfl) (by decide) (by simp only [go_sem, exE, exOk, Key.among, Cont.rows, rowsOf, rowsOfL, capsOn, false_or, or_true, true_or, or_false, List.contains_cons, List.contains_nil, ↓reduceIte]) ?_
      simp (disch := omega) only [go_sem, ↓reduceIte]; refine hK' _ _ ?_; clear hK' K'; simp only [List.nil_append, List.cons_append]
      iterate 1 (refine DOps.consU fun K' hK' => ?_; simp (disch := omega) only [go_sem, exE, exOk, Key.among, Cont.rows, rowsOf, rowsOfL, capsOn, false_or, or_true, true_or, or_false, List.contains_cons, List.contains_nil, ↓reduceIte]; refine hK' _ _ ?_; clear hK' K'; simp only [List.nil_append, List.cons_append])
      refine DOps.consLU fun K' hK' => ?_; simp (disch := omega) only [go_sem, exE, exOk, Key.among, Cont.rows, rowsOf, rowsOfL, capsOn, false_or, or_true, true_or, or_false, List.contains_cons, List.contains_nil, ↓reduceIte]; refine hK' _ _ ?_; clear hK' K'; simp only [List.nil_append, List.cons_append]
      refine DOps.consC fun K' hK' => ?_
      simp (disch := omega) only [go_sem, ↓reduceIte]
      refine OpX.app (r := 1002) (n := w.list.length) (L := [.d (.int .i64 (i : Int))]) (S := [76, 79, 90]) (by rfl) (by rfl) (by rfl) (by rfl) (by rfl) (by decide) se27 T3_ok (by rfl) (by rfl) (by simp only [go_sem, ↓reduceIte]) (by simp only [go_sem]) (by rfl) (by simp only [go_sem]) (by decide) (by simp only [List.length_singleton]; omega) (by simp only [List.length_singleton, go_sem]; omega) (.inl ⟨rfl, rfl⟩) (by rfl) (by rfl) (by decide) (by simp only [leadOnly, go_sem, rowsOf, exE, exOk, Key.among, Cont.rows, rowsOf, rowsOfL, capsOn, false_or, or_true, true_or, or_false, List.contains_cons, List.contains_nil, ↓reduceIte]) (by simp only [go_sem]) (by rfl) (by rfl) (by simp only [go_sem, dl_rows, exE, exOk, Key.among, Cont.rows, rowsOf, rowsOfL, capsOn, false_or, or_true, true_or, or_false, List.contains_cons, List.contains_nil, ↓reduceIte]) ?_
      simp (disch := omega) only [go_sem, ↓reduceIte]; refine hK' _ _ ?_; clear hK' K'; simp only [List.nil_append, List.cons_append]
      iterate 6 (refine DOps.consU fun K' hK' => ?_; simp (disch := omega) only [go_sem, exE, exOk, Key.among, Cont.rows, rowsOf, rowsOfL, capsOn, false_or, or_true, true_or, or_false, List.contains_cons, List.contains_nil, dl_rows, ↓reduceIte]; refine hK' _ _ ?_; clear hK' K'; simp only [List.nil_append, List.cons_append])
      refine DOps.consC fun K' hK' => ?_
      simp (disch := omega) only [go_sem, ↓reduceIte]
      refine OpX.call (by rfl) (by rfl) (by kernel_rfl) (m_rate_ratio_ok o.Num o.Den _ hra) (by exact ⟨rfl, rfl, trivial⟩) (by simp only [go_sem, ↓reduceIte]) (by simp only [go_sem]) (by simp only [go_sem, exE, exOk, Key.among, Cont.rows, rowsOf, rowsOfL, capsOn, false_or, or_true, true_or, or_false, List.contains_cons, List.contains_nil, dl_rows, ↓reduceIte]) ?_
      simp (disch := omega) only [go_sem, ↓reduceIte]; refine hK' _ _ ?_; clear hK' K'; simp only [List.nil_append, List.cons_append]
      refine DOps.consC fun K' hK' => ?_
      simp (disch := omega) only [go_sem, ↓reduceIte]
      refine OpX.call (by rfl) (by rfl) (by kernel_rfl) (m_rate_times_ok w.rate (ratioN o.Num o.Den) _ hti) (by exact ⟨rfl, rfl, trivial⟩) (by simp only [go_sem, ↓reduceIte]) (by simp only [go_sem]) (by simp only [go_sem, exE, exOk, Key.among, Cont.rows, rowsOf, rowsOfL, capsOn, false_or, or_true, true_or, or_false, List.contains_cons, List.contains_nil, dl_rows, ↓reduceIte]) ?_
      simp (disch := omega) only [go_sem, ↓reduceIte]; refine hK' _ _ ?_; clear hK' K'; simp only [List.nil_append, List.cons_append]
      iterate 3 (refine DOps.consU fun K' hK' => ?_; simp (disch := omega) only [go_sem, exE, exOk, Key.among, Cont.rows, rowsOf, rowsOfL, capsOn, false_or, or_true, true_or, or_false, List.contains_cons, List.contains_nil, dl_rows, ↓reduceIte]; refine hK' _ _ ?_; clear hK' K'; simp only [List.nil_append, List.cons_append])
      refine DOps.stop (by kernel_rfl) ?_
      have hlst : lstD 1 (lenc (PD.int .i64) (w.list ++ [(i : Int)])) = .imm 1 (lenc (PD.int .i64) (w.list ++ [(i : Int)])) := by
        cases w.list <;> rfl
      have hpd : Walk.pd ⟨w.list ++ [(i : Int)], timesN w.rate (ratioN o.Num o.Den), o.To⟩ = .agg [.imm 1 (lenc (PD.int .i64) (w.list ++ [(i : Int)])), .int .i64 (timesN w.rate (ratioN o.Num o.Den)).Num, .int .i64 (timesN w.rate (ratioN o.Num o.Den)).Den, .int .i64 o.To] := by
        simp only [Walk.pd, hlst]
      refine AOps.sub (τ := ⟨[(1, .dptr 1 [.int .i64 length] 0 0), (2, .dptr 1 [.int .i64 frm] 0 0), (3, .dptr 1 [.bool rounds] 0 0), (5, .ptr 2 0 0), (7, .ptr 4 0 0), (8, .ptr 1000 0 0), (35, .d (.imm 4 (lenc Offer.pd m.offers))), (36, .d (.int .i64 m.offers.length)), (37, .d (.int .i64 i)), (73, .func (.func 94) (capsOn m frm length rounds)), (90, .d (Walk.pd ⟨w.list ++ [(i : Int)], timesN w.rate (ratioN o.Num o.Den), o.To⟩))],
        heapIn m frm length rounds l m.n.toNat (s.set w.to.toNat true) w, [.func (.func 95) [.ptr 2 0 0, .ptr 1000 0 0]], some (l, all, xs ++ lenc Walk.pd (ysOf m.offers frm length rounds k w s i), true)⟩)
        (Sub.cv ⟨rfl, rfl, rfl, rfl, rfl, trivial⟩ ⟨.inl ⟨leV_refl _, trivial⟩, .inl ⟨leV_refl _, trivial⟩, .inl ⟨leV_refl _, trivial⟩, .inl ⟨leV_refl _, rfl⟩, .inl ⟨leV_refl _, rfl⟩, .inl ⟨leV_refl _, rfl⟩, .inl ⟨leV_refl _, trivial⟩, .inl ⟨leV_refl _, trivial⟩, .inl ⟨leV_refl _, trivial⟩, .inl ⟨leV_refl _, by simp only [heapIn, capsOn, go_sem, ↓reduceIte]⟩, .inr ⟨.d (Walk.pd ⟨w.list ++ [(i : Int)], timesN w.rate (ratioN o.Num o.Den), o.To⟩), ?_, leV_refl _, ?_⟩, trivial⟩ (heapIn_refs ..) ⟨rfl, by simp only [heapIn, go_sem, ↓reduceIte], rfl⟩) ?_
      · rw [hpd]
        have htk : (w.list ++ [(i : Int)]).take (w.list.length + 1) = w.list ++ [(i : Int)] := List.take_of_length_le (by simp)
        simp only [go_sem, htk, ↓reduceIte]
      · intro r hr
        simp only [go_sem, rowsOf, rowsOfL, List.mem_cons, List.not_mem_nil, or_false, ↓reduceIte] at hr
        subst hr; rfl
      have hadd : addOf m.offers frm length rounds k w s (o, i) = walkOn m.offers frm length rounds k ⟨w.list ++ [(i : Int)], timesN w.rate (ratioN o.Num o.Den), o.To⟩ (s.set w.to.toNat true) := by
        simp only [addOf, hb, Bool.false_eq_true, if_false]
      have hok : OnOk m length ⟨w.list ++ [(i : Int)], timesN w.rate (ratioN o.Num o.Den), o.To⟩ (s.set w.to.toNat true) k := by
        have hk1 := hk.k1
        have htb := timesN_bounds (p := w.rate) (q := ratioN o.Num o.Den) (a := 50 ^ w.list.length) (b := 50) ⟨hk.num1, hk.num2⟩ ⟨hk.den1, hk.den2⟩ ⟨by omega, by omega⟩ ⟨by omega, by omega⟩
        have hll : (w.list ++ [(i : Int)]).length = w.list.length + 1 := by simp
        have hlg : 0 ≤ length := by
          simp only [walksPre, Bool.and_eq_true, decide_eq_true_eq] at hpre
          omega
        refine ⟨by rw [hll]; omega, by omega, by rw [List.length_set]; exact hn, hg3, hg4, htb.1, ?_, htb.2.2.1, ?_, ?_⟩
        · rw [hll, Int.pow_succ]; exact htb.2.1
        · rw [hll, Int.pow_succ]; exact htb.2.2.2
        · rw [hll]
          rcases Bool.eq_false_or_eq_true ((s.set w.to.toNat true).getD o.To.toNat false) with c | c
          · right
            have hb2 := hb
            simp only [walkSkip, c, Bool.true_and, Bool.or_eq_false_iff, Bool.not_eq_false', Bool.and_eq_true, decide_eq_true_eq] at hb2
            have := hb2.2.1.2
            omega
          · left
            rw [hse, c]
      have hpf : (xs ++ lenc Walk.pd (ysOf m.offers frm length rounds k w s i)) ++ lenc Walk.pd (walkOn m.offers frm length rounds k ⟨w.list ++ [(i : Int)], timesN w.rate (ratioN o.Num o.Den), o.To⟩ (s.set w.to.toNat true)) <+: all := by
        obtain ⟨r, hr⟩ := ysOf_pre (offers := m.offers) (frm := frm) (length := length) (rounds := rounds) (k := k) (w := w) (s := s) (i := i + 1)
        rw [ysOf_succ ho, hadd] at hr
        refine List.IsPrefix.trans ⟨lenc Walk.pd r, ?_⟩ hall
        rw [hr]; simp [lenc]
      simp only [heapIn]
      refine AOps.consC (by simp only [go_sem, ↓reduceIte]) fun K' hK' => ?_
      simp (disch := omega) only [go_sem, ↓reduceIte]
      refine OpT.callG (H := heapOn m frm length rounds l m.n.toNat (s.set w.to.toNat true)) (g := id) (gc := some (l, all, xs ++ lenc Walk.pd (ysOf m.offers frm length rounds k w s i), true)) (by rfl) (by rfl) (by rfl) (by kernel_rfl) (ih _ _ _ hok hpf) (Hand.of ?_ ?_) (.inr rfl) ?_ (by simp only [go_sem, ↓reduceIte]) ?_
      · simp only [go_sem, heapOn, capsOn, Row.ren, renL, PV.ren, dl_ren, id, ↓reduceIte]
      · simp only [go_sem, heapOn, id, ↓reduceIte]
      · simp only [go_sem, heapOn, capsOn, handsOk, handOk, id, ↓reduceIte]
      rintro p H' g' ⟨rfl, hp⟩
      refine ⟨id, Back.of ?_ ?_ ?_, ?_, ?_, ?_⟩
      · simp only [go_sem, heapOn, capsOn, Row.ren, renL, PV.ren, dl_ren, id, dl_length, dl_clean, clean, cleanL, ↓reduceIte]
      · simp only [go_sem, heapOn, id, ↓reduceIte]
      · simp only [go_sem, heapOn, id, ↓reduceIte]
      · rcases hp with ⟨rfl, _⟩ | ⟨_, _, _, rfl, _⟩ <;> trivial
      · rcases hp with ⟨rfl, _⟩ | ⟨_, _, _, rfl, _⟩ <;> trivial
      rcases hp with ⟨rfl, rfl⟩ | ⟨part, rest, hpr, rfl, rfl⟩
      · simp only [go_sem, heapOn, capsOn, hmerge, Row.ren, renL, PV.ren, dl_ren, id, ghBack, ↓reduceIte]; refine hK' _ ?_; clear hK' K'
        iterate 1 (refine AOps.consU fun K' hK' => ?_; simp (disch := omega) only [go_sem, ↓reduceIte]; refine hK' _ ?_; clear hK' K')
        refine AOps.nil ?_
        simp only [Post.then]
        refine hK2 _ ?_; clear hK2 K2
        refine AWp.cond (b := false) (by rfl) (fun hb => by cases hb) (fun _ => ?_)
        refine AWp.skip ?_
        simp only [Post.then, Post.inBlock]
        refine hK _ ?_; clear hK K
        refine AWp.reg ?_
        iterate 2 (refine AOps.consU fun K' hK' => ?_; simp (disch := omega) only [go_sem, ↓reduceIte]; refine hK' _ ?_; clear hK' K')
        refine AOps.nil ?_
        simp only [Post.then]
        refine hyd _ ?_
        have hwi : IntKind.i64.wrap ((i : Int) + 1) = ((i + 1 : Nat) : Int) := by
          simp only [walksPre, Bool.and_eq_true, decide_eq_true_eq] at hpre
          rw [wrap_i64_eq (by omega)]; omega
        rw [hwi]
        exact Sub.mk ⟨rfl, rfl, rfl, rfl, rfl, rfl, rfl, rfl, rfl, trivial⟩ ⟨rfl, rfl, rfl, rfl, rfl, trivial⟩ ⟨trivial, trivial, trivial, rfl, rfl, rfl, trivial, trivial, trivial, trivial⟩ (heapIn_refs ..) ⟨rfl, by simp only [headOn, heapIn, go_sem, ↓reduceIte], by simp only [headOn, ysOf_succ ho, hadd]; simp [lenc]⟩
      · simp only [go_sem, heapOn, capsOn, hmerge, Row.ren, renL, PV.ren, dl_ren, id, ghBack, ↓reduceIte]; refine hK' _ ?_; clear hK' K'
        iterate 1 (refine AOps.consU fun K' hK' => ?_; simp (disch := omega) only [go_sem, ↓reduceIte]; refine hK' _ ?_; clear hK' K')
        refine AOps.nil ?_
        simp only [Post.then]
        refine hK2 _ ?_; clear hK2 K2
        refine AWp.cond (b := true) (by rfl) (fun _ => ?_) (fun hb => by cases hb)
        refine AWp.seq fun K2 hK2 => AWp.reg ?_
        iterate 1 (refine AOps.consU fun K' hK' => ?_; simp (disch := omega) only [go_sem, ↓reduceIte]; refine hK' _ ?_; clear hK' K')
        refine AOps.nil ?_
        simp only [Post.then]
        refine hK2 _ ?_; clear hK2 K2
        refine AWp.ret ?_
        simp only [Post.then, Post.inBlock]
        obtain ⟨r, hr⟩ := ysOf_pre (offers := m.offers) (frm := frm) (length := length) (rounds := rounds) (k := k) (w := w) (s := s) (i := i + 1)
        refine on_leave (c := false) (by rfl) rfl hn ⟨ht1, ht2⟩ hf ⟨⟨rfl, rfl, rfl, rfl, trivial⟩, .inr ⟨lenc Walk.pd (ysOf m.offers frm length rounds k w s i) ++ part, rest ++ lenc Walk.pd r, ?_, rfl, ?_⟩⟩
        · rw [hr, ysOf_succ ho, hadd]
          have : lenc Walk.pd (ysOf m.offers frm length rounds k w s i ++ walkOn m.offers frm length rounds k ⟨w.list ++ [(i : Int)], timesN w.rate (ratioN o.Num o.Den), o.To⟩ (s.set w.to.toNat true) ++ r) = lenc Walk.pd (ysOf m.offers frm length rounds k w s i) ++ lenc Walk.pd (walkOn m.offers frm length rounds k ⟨w.list ++ [(i : Int)], timesN w.rate (ratioN o.Num o.Den), o.To⟩ (s.set w.to.toNat true)) ++ lenc Walk.pd r := by simp [lenc]
          rw [this, hpr]; simp
        · simp
end Go.Pv.Tryd

set_option linter.unusedSimpArgs false
set_option linter.unusedVariables false
namespace Go.Pv.Tryd
open Go.Proofs Go.Pv
theorem on_fn (m : Market) (frm length : Int) (rounds : Bool) (l : Nat) (all : List PD) (hpre : walksPre m frm length rounds = true) : ∀ (k : Nat) (w : Walk) (s : List Bool) (xs : List PD), OnOk m length w s k →
    xs ++ lenc Walk.pd (walkOn m.offers frm length rounds k w s) <+: all →
    FnG Tryd.prog G 94 (.d w.pd :: capsOn m frm length rounds) (heapOn m frm length rounds l m.n.toNat s) (some (l, all, xs, true)) (OnPost (lenc Walk.pd (walkOn m.offers frm length rounds k w s)) (heapOn m frm length rounds l m.n.toNat s) l all xs)
  | 0, w, s, xs, hk, _ => absurd hk.k2 (by omega)
  | k + 1, w, s, xs, hk, hall => by
    by_cases he : (w.list.length : Int) = length
    · exact on_end m frm length rounds l all k w s xs hk he hall
    · exact on_step m frm length rounds l all hpre k w s xs hk he (fun w' s' xs' => on_fn m frm length rounds l all hpre k w' s' xs') hall
@[go_sem] def walkCaps (m : Market) (frm length : Int) (rounds : Bool) : List PV := [.dptr 2 [Market.pd m] 0 0, .dptr 1 [.int .i64 length] 0 0, .dptr 1 [.int .i64 frm] 0 0, .dptr 1 [.bool rounds] 0 0]
theorem walks_seq (m : Market) (frm length : Int) (rounds : Bool) (hpre : walksPre m frm length rounds = true) : SeqFn Tryd.prog G 93 (walkCaps m frm length rounds) (lenc Walk.pd (walksL m frm length rounds)) := by
  intro l
  have hp := hpre
  simp only [walksPre, Bool.and_eq_true, decide_eq_true_eq] at hp
  obtain ⟨⟨hp1, hp2, hp3, hp4, hp5, hp6⟩, hp7⟩ := hp
  have hrep : lenc PD.bool (List.replicate m.n.toNat false) = List.replicate m.n.toNat (PD.bool false) := by simp [lenc]
  have hok : OnOk m length ⟨[], ⟨1, 1⟩, frm⟩ (List.replicate m.n.toNat false) (length.toNat + 1) := by
    refine ⟨by simp, by omega, by simp, hp3, hp4, by simp, by simp, by simp, by simp, .inl ?_⟩
    show (List.replicate m.n.toNat false)[frm.toNat]? = some false
    rw [List.getElem?_replicate, if_pos (by omega)]
  refine FnG.less (R := fun p _ g' => p = .tuple [] ∧ (g' = some (l, lenc Walk.pd (walksL m frm length rounds), lenc Walk.pd (walksL m frm length rounds), true) ∨ ∃ part rest, lenc Walk.pd (walksL m frm length rounds) = part ++ rest ∧ g' = some (l, lenc Walk.pd (walksL m frm length rounds), part, false))) ?_ ?_
  rotate_left
  · rintro p H' g' ⟨rfl, h⟩
    exact ⟨[], trivial, trivial, trivial, rfl, h⟩
  refine FnG.introD Tryd.func93 (by rfl) (by rw [Tryd.ntmps93]; simp [walkCaps]) ?_
  rw [Tryd.ntmps93]
  simp only [argEnv, walkCaps, Nat.reduceAdd]
  refine AWp.seq fun K hK => AWp.reg ?_
  iterate 1 (refine AOps.consU fun K' hK' => ?_; simp (disch := omega) only [go_sem, ↓reduceIte]; refine hK' _ ?_; clear hK' K')
  refine AOps.nil ?_
  simp only [Post.then]
  refine hK _ ?_; clear hK K
  refine AWp.seq fun K hK => AWp.reg ?_
  iterate 5 (refine AOps.consU fun K' hK' => ?_; simp (disch := omega) only [go_sem, ↓reduceIte]; refine hK' _ ?_; clear hK' K')
  refine AOps.nil ?_
  simp only [Post.then]
  refine hK _ ?_; clear hK K
  refine AWp.seq fun K hK => AWp.reg ?_
  iterate 1 (refine AOps.consU fun K' hK' => ?_; simp (disch := omega) only [go_sem, ↓reduceIte]; refine hK' _ ?_; clear hK' K')
  refine AOps.nil ?_
  simp only [Post.then]
  refine hK _ ?_; clear hK K
  refine AWp.seq fun K hK => AWp.reg ?_
  iterate 2 (refine AOps.consU fun K' hK' => ?_; simp (disch := omega) only [go_sem, ↓reduceIte]; refine hK' _ ?_; clear hK' K')
  refine AOps.nil ?_
  simp only [Post.then]
  refine hK _ ?_; clear hK K
  refine AWp.reg ?_
  iterate 4 (refine AOps.consU fun K' hK' => ?_; simp (disch := omega) only [go_sem, ↓reduceIte]; refine hK' _ ?_; clear hK' K')
  refine AOps.consC (by simp only [go_sem, ↓reduceIte]) fun K' hK' => ?_
  simp (disch := omega) only [go_sem, ↓reduceIte]
  have hf := on_fn m frm length rounds l (lenc Walk.pd (walksL m frm length rounds)) hpre (length.toNat + 1) ⟨[], ⟨1, 1⟩, frm⟩ (List.replicate m.n.toNat false) [] hok (by rw [List.nil_append]; exact List.prefix_refl _)
  refine OpT.callG (H := heapOn m frm length rounds l m.n.toNat (List.replicate m.n.toNat false)) (g := renOf [(1, 1000), (2, 1002), (3, 1001), (4, 1003)]) (gc := some (l, lenc Walk.pd (walksL m frm length rounds), [], true)) (by rfl) (by rfl) (by rfl) (by kernel_rfl) hf (Hand.of ?_ ?_) (.inr rfl) ?_ (by simp only [go_sem, ↓reduceIte]) ?_
  · simp only [go_sem, heapOn, capsOn, Row.ren, renL, PV.ren, dl_ren, Walk.pd, ↓reduceIte]
  · simp only [go_sem, heapOn, ↓reduceIte]
  · simp only [go_sem, handsOk, handOk, heapOn, capsOn, lstD, lenc, Walk.pd, List.map_nil, ↓reduceIte]
  rintro p H' g' ⟨rfl, hp⟩
  refine ⟨renOf [(1, 1000), (2, 1002), (3, 1001), (4, 1003)], Back.of ?_ ?_ ?_, ?_, ?_, ?_⟩
  · simp only [go_sem, heapOn, capsOn, Row.ren, renL, PV.ren, dl_ren, dl_length, dl_clean, clean, cleanL, ↓reduceIte]
  · simp only [go_sem, heapOn, ↓reduceIte]
  · simp only [go_sem, heapOn, ↓reduceIte]
  · rcases hp with ⟨rfl, _⟩ | ⟨_, _, _, rfl, _⟩ <;> trivial
  · rcases hp with ⟨rfl, _⟩ | ⟨_, _, _, rfl, _⟩ <;> trivial
  simp only [go_sem, heapOn, capsOn, hmerge, Row.ren, renL, PV.ren, dl_ren, ghBack, ↓reduceIte]; refine hK' _ ?_; clear hK' K'
  refine AOps.nil ?_
  simp only [Fin1]
  refine .inl ⟨.tuple [], ?_, by first | exact True.intro | rfl, rfl, ?_⟩
  · simp only [go_sem, Tryd.results93, ↓reduceIte]
  · rcases hp with ⟨_, rfl⟩ | ⟨part, rest, h1, _, rfl⟩
    · exact .inl rfl
    · exact .inr ⟨part, rest, h1, rfl⟩
theorem walks_fn (m : Market) (frm length : Int) (rounds : Bool) : PureFn Tryd.prog G 80 [.d (Market.pd m), .d (.int .i64 frm), .d (.int .i64 length), .d (.bool rounds)] (.func (.func 93) (walkCaps m frm length rounds)) := by
  refine PureFn.intro2 Tryd.func80 (by rfl) (by rw [Tryd.ntmps80]; simp) ?_
  rw [Tryd.ntmps80]
  simp only [argEnv, Nat.reduceAdd]
  refine AWp.seq fun K hK => AWp.reg ?_
  iterate 5 (refine AOps.consU fun K' hK' => ?_; simp (disch := omega) only [go_sem, ↓reduceIte]; refine hK' _ ?_; clear hK' K')
  refine AOps.nil ?_
  simp only [Post.then]
  refine hK _ ?_; clear hK K
  refine AWp.seq fun K hK => AWp.reg ?_
  iterate 2 (refine AOps.consU fun K' hK' => ?_; simp (disch := omega) only [go_sem, ↓reduceIte]; refine hK' _ ?_; clear hK' K')
  refine AOps.nil ?_
  simp only [Post.then]
  refine hK _ ?_; clear hK K
  refine AWp.ret ?_
  simp only [Go.Pv.Fin, Go.Pv.FinG]
  refine ⟨.func (.func 93) [.ptr 1000 0 0, .ptr 1002 0 0, .ptr 1001 0 0, .ptr 1003 0 0], ?_, True.intro, _, rfl, ?_⟩
  · simp only [go_sem, Tryd.results80, ↓reduceIte]
  · exact leV_refl _
end Go.Pv.Tryd



namespace Go.Pv.Tryd
open Go.Proofs Go.Pv
theorem m_rate_above_ok (a1 : Ratio) (b1 : Ratio) (r : Bool) (h : m_rate_above a1 b1 = some r) : PureFn Tryd.prog G 56 [.d (.agg [(.int .i64 a1.Num), (.int .i64 a1.Den)]), .d (.agg [(.int .i64 b1.Num), (.int .i64 b1.Den)])] (.d (.bool r)) := by
 unfold m_rate_above at h
 refine PureFn.intro2 Tryd.func56 (by rfl) (by rw [Tryd.ntmps56]; simp) ?_
 rw [Tryd.ntmps56]
 simp only [argEnv, reduceCtorEq, ↓reduceIte, Nat.reduceAdd, Nat.reduceMul, Nat.reduceLT, Nat.reduceLeDiff, Nat.reduceEqDiff, Nat.reduceBEq, Int.reduceToNat]
 refine AWp.seq fun K_1 hK_1 => AWp.reg ?_
 iterate 3 (refine AOps.consU fun K' hK' => ?_; simp (disch := omega) only [go_sem, ↓reduceIte]; refine hK' _ ?_; clear hK' K')
 refine AOps.nil ?_
 simp only [Post.then]
 refine hK_1 _ ?_
 clear hK_1 K_1
 refine AWp.seq fun K_2 hK_2 => AWp.reg ?_
 iterate 12 (refine AOps.consU fun K' hK' => ?_; simp (disch := omega) only [go_sem, ↓reduceIte]; refine hK' _ ?_; clear hK' K')
 refine AOps.nil ?_
 simp only [Post.then]
 refine hK_2 _ ?_
 clear hK_2 K_2
 refine AWp.ret ?_
 simp only [Post.then, Post.inBlock, Go.Pv.Fin, Go.Pv.FinG]
 rw [← Option.some.inj h]
 refine ⟨.d (.bool (decide ((IntKind.i64.wrap (b1.Num * a1.Den)) < (IntKind.i64.wrap (a1.Num * b1.Den))))), ?_, (by first | exact True.intro | rfl), .d (.bool (decide ((IntKind.i64.wrap (b1.Num * a1.Den)) < (IntKind.i64.wrap (a1.Num * b1.Den))))), ?_, ?_⟩
 ·simp only [go_sem, Tryd.results56, List.length_append, List.length_set, List.length_replicate, ↓reduceIte]
 ·simp only [go_sem, lenc_nil, List.take_length, List.length_append, List.length_set, List.length_replicate, ↓reduceIte]
 ·(first | exact leV_refl _ | (simp only [go_sem, leV, leVL, leD, leDL, lenc_nil, leD_refl, leDL_refl, lstD_le, ↓reduceIte]; done))
end Go.Pv.Tryd

namespace Go.Pv.Tryd
open Go.Proofs Go.Pv
theorem m_cmp_isNaN_ok (x1 : Int) (r : Bool) (h : m_cmp_isNaN x1 = some r) : PureFn Tryd.prog G 113 [.d (.int .i64 x1)] (.d (.bool r)) := by
 unfold m_cmp_isNaN at h
 refine PureFn.intro2 Tryd.func113 (by rfl) (by rw [Tryd.ntmps113]; simp) ?_
 rw [Tryd.ntmps113]
 simp only [argEnv, reduceCtorEq, ↓reduceIte, Nat.reduceAdd, Nat.reduceMul, Nat.reduceLT, Nat.reduceLeDiff, Nat.reduceEqDiff, Nat.reduceBEq, Int.reduceToNat]
 refine AWp.seq fun K_1 hK_1 => AWp.reg ?_
 iterate 1 (refine AOps.consU fun K' hK' => ?_; simp (disch := omega) only [go_sem, ↓reduceIte]; refine hK' _ ?_; clear hK' K')
 refine AOps.nil ?_
 simp only [Post.then]
 refine hK_1 _ ?_
 clear hK_1 K_1
 refine AWp.seq fun K_2 hK_2 => AWp.reg ?_
 iterate 4 (refine AOps.consU fun K' hK' => ?_; simp (disch := omega) only [go_sem, ↓reduceIte]; refine hK' _ ?_; clear hK' K')
 refine AOps.nil ?_
 simp only [Post.then]
 refine hK_2 _ ?_
 clear hK_2 K_2
 refine AWp.ret ?_
 simp only [Post.then, Post.inBlock, Go.Pv.Fin, Go.Pv.FinG]
 rw [← Option.some.inj h]
 refine ⟨.d (.bool (decide (¬x1 = x1))), ?_, (by first | exact True.intro | rfl), .d (.bool (decide (¬x1 = x1))), ?_, ?_⟩
 ·simp only [go_sem, Tryd.results113, List.length_append, List.length_set, List.length_replicate, ↓reduceIte]
 ·simp only [go_sem, lenc_nil, List.take_length, List.length_append, List.length_set, List.length_replicate, ↓reduceIte]
 ·(first | exact leV_refl _ | (simp only [go_sem, leV, leVL, leD, leDL, lenc_nil, leD_refl, leDL_refl, lstD_le, ↓reduceIte]; done))
end Go.Pv.Tryd

namespace Go.Pv.Tryd
open Go.Proofs Go.Pv
theorem m_cmp_Compare_ok (x1 : Int) (y1 : Int) (r : Int) (h : m_cmp_Compare x1 y1 = some r) : PureFn Tryd.prog G 97 [.d (.int .i64 x1), .d (.int .i64 y1)] (.d (.int .i64 r)) := by
 unfold m_cmp_Compare at h
 refine PureFn.intro2 Tryd.func97 (by rfl) (by rw [Tryd.ntmps97]; simp) ?_
 rw [Tryd.ntmps97]
 simp only [argEnv, reduceCtorEq, ↓reduceIte, Nat.reduceAdd, Nat.reduceMul, Nat.reduceLT, Nat.reduceLeDiff, Nat.reduceEqDiff, Nat.reduceBEq, Int.reduceToNat]
 refine AWp.seq fun K_1 hK_1 => AWp.reg ?_
 iterate 1 (refine AOps.consU fun K' hK' => ?_; simp (disch := omega) only [go_sem, ↓reduceIte]; refine hK' _ ?_; clear hK' K')
 refine AOps.nil ?_
 simp only [Post.then]
 refine hK_1 _ ?_
 clear hK_1 K_1
 refine AWp.seq fun K_2 hK_2 => AWp.reg ?_
 iterate 1 (refine AOps.consU fun K' hK' => ?_; simp (disch := omega) only [go_sem, ↓reduceIte]; refine hK' _ ?_; clear hK' K')
 obtain ⟨r1, hx_3, h⟩ := bind_some h
 refine AOps.consU fun K' hK' => ?_; simp (disch := omega) only [go_sem, ↓reduceIte]; refine OpT.call (by rfl) (by rfl) (by kernel_rfl) (m_cmp_isNaN_ok x1 _ hx_3) (by exact ⟨rfl, trivial⟩) (by simp only [go_sem, ↓reduceIte]) ?_ (by simp only [go_sem]); simp only [go_sem, ↓reduceIte]; refine hK' _ ?_; clear hK' K'
 iterate 1 (refine AOps.consU fun K' hK' => ?_; simp (disch := omega) only [go_sem, ↓reduceIte]; refine hK' _ ?_; clear hK' K')
 refine AOps.nil ?_
 simp only [Post.then]
 refine hK_2 _ ?_
 clear hK_2 K_2
 refine AWp.seq fun K_4 hK_4 => AWp.reg ?_
 iterate 1 (refine AOps.consU fun K' hK' => ?_; simp (disch := omega) only [go_sem, ↓reduceIte]; refine hK' _ ?_; clear hK' K')
 obtain ⟨r2, hx_5, h⟩ := bind_some h
 refine AOps.consU fun K' hK' => ?_; simp (disch := omega) only [go_sem, ↓reduceIte]; refine OpT.call (by rfl) (by rfl) (by kernel_rfl) (m_cmp_isNaN_ok y1 _ hx_5) (by exact ⟨rfl, trivial⟩) (by simp only [go_sem, ↓reduceIte]) ?_ (by simp only [go_sem]); simp only [go_sem, ↓reduceIte]; refine hK' _ ?_; clear hK' K'
 iterate 1 (refine AOps.consU fun K' hK' => ?_; simp (disch := omega) only [go_sem, ↓reduceIte]; refine hK' _ ?_; clear hK' K')
 refine AOps.nil ?_
 simp only [Post.then]
 refine hK_4 _ ?_
 clear hK_4 K_4
 refine AWp.seq fun K_6 hK_6 => ?_
 refine AWp.seq fun K_7 hK_7 => AWp.reg ?_
 iterate 1 (refine AOps.consU fun K' hK' => ?_; simp (disch := omega) only [go_sem, ↓reduceIte]; refine hK' _ ?_; clear hK' K')
 refine AOps.nil ?_
 simp only [Post.then]
 refine hK_7 _ ?_
 clear hK_7 K_7
 refine AWp.cond (b := r1) (by rfl) (fun hb_8 => ?_) (fun hb_8 => ?_)
 ·rw [hb_8, cond_true] at h
  refine AWp.seq fun K_9 hK_9 => ?_
  refine AWp.seq fun K_10 hK_10 => AWp.reg ?_
  iterate 1 (refine AOps.consU fun K' hK' => ?_; simp (disch := omega) only [go_sem, ↓reduceIte]; refine hK' _ ?_; clear hK' K')
  refine AOps.nil ?_
  simp only [Post.then]
  refine hK_10 _ ?_
  clear hK_10 K_10
  refine AWp.cond (b := r2) (by rfl) (fun hb_11 => ?_) (fun hb_11 => ?_)
  ·rw [hb_11, cond_true] at h
   refine AWp.seq fun K_12 hK_12 => AWp.reg ?_
   iterate 1 (refine AOps.consU fun K' hK' => ?_; simp (disch := omega) only [go_sem, ↓reduceIte]; refine hK' _ ?_; clear hK' K')
   refine AOps.nil ?_
   simp only [Post.then]
   refine hK_12 _ ?_
   clear hK_12 K_12
   refine AWp.ret ?_
   simp only [Post.then, Post.inBlock, Go.Pv.Fin, Go.Pv.FinG]
   rw [← Option.some.inj h]
   refine ⟨.d (.int .i64 0), ?_, (by first | exact True.intro | rfl), .d (.int .i64 0), ?_, ?_⟩
   ·simp only [go_sem, Tryd.results97, List.length_append, List.length_set, List.length_replicate, ↓reduceIte]
   ·simp only [go_sem, lenc_nil, List.take_length, List.length_append, List.length_set, List.length_replicate, ↓reduceIte]
   ·(first | exact leV_refl _ | (simp only [go_sem, leV, leVL, leD, leDL, lenc_nil, leD_refl, leDL_refl, lstD_le, ↓reduceIte]; done))
  ·rw [hb_11, cond_false] at h
   refine AWp.skip ?_
   simp only [Post.then, Post.inBlock, ↓reduceIte, Nat.reduceEqDiff]
   refine hK_9 _ ?_
   clear hK_9 K_9
   refine AWp.seq fun K_13 hK_13 => AWp.reg ?_
   iterate 1 (refine AOps.consU fun K' hK' => ?_; simp (disch := omega) only [go_sem, ↓reduceIte]; refine hK' _ ?_; clear hK' K')
   refine AOps.nil ?_
   simp only [Post.then]
   refine hK_13 _ ?_
   clear hK_13 K_13
   refine AWp.ret ?_
   simp only [Post.then, Post.inBlock, Go.Pv.Fin, Go.Pv.FinG]
   rw [← Option.some.inj h]
   refine ⟨.d (.int .i64 (-1)), ?_, (by first | exact True.intro | rfl), .d (.int .i64 (-1)), ?_, ?_⟩
   ·simp only [go_sem, Tryd.results97, List.length_append, List.length_set, List.length_replicate, ↓reduceIte]
   ·simp only [go_sem, lenc_nil, List.take_length, List.length_append, List.length_set, List.length_replicate, ↓reduceIte]
   ·(first | exact leV_refl _ | (simp only [go_sem, leV, leVL, leD, leDL, lenc_nil, leD_refl, leDL_refl, lstD_le, ↓reduceIte]; done))
 ·rw [hb_8, cond_false] at h
  refine AWp.skip ?_
  simp only [Post.then, Post.inBlock, ↓reduceIte, Nat.reduceEqDiff]
  refine hK_6 _ ?_
  clear hK_6 K_6
  refine AWp.seq fun K_14 hK_14 => ?_
  refine AWp.seq fun K_15 hK_15 => AWp.reg ?_
  iterate 1 (refine AOps.consU fun K' hK' => ?_; simp (disch := omega) only [go_sem, ↓reduceIte]; refine hK' _ ?_; clear hK' K')
  refine AOps.nil ?_
  simp only [Post.then]
  refine hK_15 _ ?_
  clear hK_15 K_15
  refine AWp.cond (b := r2) (by rfl) (fun hb_16 => ?_) (fun hb_16 => ?_)
  ·rw [hb_16, cond_true] at h
   refine AWp.seq fun K_17 hK_17 => AWp.reg ?_
   iterate 1 (refine AOps.consU fun K' hK' => ?_; simp (disch := omega) only [go_sem, ↓reduceIte]; refine hK' _ ?_; clear hK' K')
   refine AOps.nil ?_
   simp only [Post.then]
   refine hK_17 _ ?_
   clear hK_17 K_17
   refine AWp.ret ?_
   simp only [Post.then, Post.inBlock, Go.Pv.Fin, Go.Pv.FinG]
   rw [← Option.some.inj h]
   refine ⟨.d (.int .i64 1), ?_, (by first | exact True.intro | rfl), .d (.int .i64 1), ?_, ?_⟩
   ·simp only [go_sem, Tryd.results97, List.length_append, List.length_set, List.length_replicate, ↓reduceIte]
   ·simp only [go_sem, lenc_nil, List.take_length, List.length_append, List.length_set, List.length_replicate, ↓reduceIte]
   ·(first | exact leV_refl _ | (simp only [go_sem, leV, leVL, leD, leDL, lenc_nil, leD_refl, leDL_refl, lstD_le, ↓reduceIte]; done))
  ·rw [hb_16, cond_false] at h
   refine AWp.skip ?_
   simp only [Post.then, Post.inBlock, ↓reduceIte, Nat.reduceEqDiff]
   refine hK_14 _ ?_
   clear hK_14 K_14
   refine AWp.seq fun K_18 hK_18 => ?_
   refine AWp.seq fun K_19 hK_19 => AWp.reg ?_
   iterate 3 (refine AOps.consU fun K' hK' => ?_; simp (disch := omega) only [go_sem, ↓reduceIte]; refine hK' _ ?_; clear hK' K')
   refine AOps.nil ?_
   simp only [Post.then]
   refine hK_19 _ ?_
   clear hK_19 K_19
   refine AWp.cond (b := (decide (x1 < y1))) (by rfl) (fun hb_20 => ?_) (fun hb_20 => ?_)
   ·rw [hb_20, cond_true] at h
    refine AWp.seq fun K_21 hK_21 => AWp.reg ?_
    iterate 1 (refine AOps.consU fun K' hK' => ?_; simp (disch := omega) only [go_sem, ↓reduceIte]; refine hK' _ ?_; clear hK' K')
    refine AOps.nil ?_
    simp only [Post.then]
    refine hK_21 _ ?_
    clear hK_21 K_21
    refine AWp.ret ?_
    simp only [Post.then, Post.inBlock, Go.Pv.Fin, Go.Pv.FinG]
    rw [← Option.some.inj h]
    refine ⟨.d (.int .i64 (-1)), ?_, (by first | exact True.intro | rfl), .d (.int .i64 (-1)), ?_, ?_⟩
    ·simp only [go_sem, Tryd.results97, List.length_append, List.length_set, List.length_replicate, ↓reduceIte]
    ·simp only [go_sem, lenc_nil, List.take_length, List.length_append, List.length_set, List.length_replicate, ↓reduceIte]
    ·(first | exact leV_refl _ | (simp only [go_sem, leV, leVL, leD, leDL, lenc_nil, leD_refl, leDL_refl, lstD_le, ↓reduceIte]; done))
   ·rw [hb_20, cond_false] at h
    refine AWp.skip ?_
    simp only [Post.then, Post.inBlock, ↓reduceIte, Nat.reduceEqDiff]
    refine hK_18 _ ?_
    clear hK_18 K_18
    refine AWp.seq fun K_22 hK_22 => ?_
    refine AWp.seq fun K_23 hK_23 => AWp.reg ?_
    iterate 3 (refine AOps.consU fun K' hK' => ?_; simp (disch := omega) only [go_sem, ↓reduceIte]; refine hK' _ ?_; clear hK' K')
    refine AOps.nil ?_
    simp only [Post.then]
    refine hK_23 _ ?_
    clear hK_23 K_23
    refine AWp.cond (b := (decide (y1 < x1))) (by rfl) (fun hb_24 => ?_) (fun hb_24 => ?_)
    ·rw [hb_24, cond_true] at h
     refine AWp.seq fun K_25 hK_25 => AWp.reg ?_
     iterate 1 (refine AOps.consU fun K' hK' => ?_; simp (disch := omega) only [go_sem, ↓reduceIte]; refine hK' _ ?_; clear hK' K')
     refine AOps.nil ?_
     simp only [Post.then]
     refine hK_25 _ ?_
     clear hK_25 K_25
     refine AWp.ret ?_
     simp only [Post.then, Post.inBlock, Go.Pv.Fin, Go.Pv.FinG]
     rw [← Option.some.inj h]
     refine ⟨.d (.int .i64 1), ?_, (by first | exact True.intro | rfl), .d (.int .i64 1), ?_, ?_⟩
     ·simp only [go_sem, Tryd.results97, List.length_append, List.length_set, List.length_replicate, ↓reduceIte]
     ·simp only [go_sem, lenc_nil, List.take_length, List.length_append, List.length_set, List.length_replicate, ↓reduceIte]
     ·(first | exact leV_refl _ | (simp only [go_sem, leV, leVL, leD, leDL, lenc_nil, leD_refl, leDL_refl, lstD_le, ↓reduceIte]; done))
    ·rw [hb_24, cond_false] at h
     refine AWp.skip ?_
     simp only [Post.then, Post.inBlock, ↓reduceIte, Nat.reduceEqDiff]
     refine hK_22 _ ?_
     clear hK_22 K_22
     refine AWp.seq fun K_26 hK_26 => AWp.reg ?_
     iterate 1 (refine AOps.consU fun K' hK' => ?_; simp (disch := omega) only [go_sem, ↓reduceIte]; refine hK' _ ?_; clear hK' K')
     refine AOps.nil ?_
     simp only [Post.then]
     refine hK_26 _ ?_
     clear hK_26 K_26
     refine AWp.ret ?_
     simp only [Post.then, Post.inBlock, Go.Pv.Fin, Go.Pv.FinG]
     rw [← Option.some.inj h]
     refine ⟨.d (.int .i64 0), ?_, (by first | exact True.intro | rfl), .d (.int .i64 0), ?_, ?_⟩
     ·simp only [go_sem, Tryd.results97, List.length_append, List.length_set, List.length_replicate, ↓reduceIte]
     ·simp only [go_sem, lenc_nil, List.take_length, List.length_append, List.length_set, List.length_replicate, ↓reduceIte]
     ·(first | exact leV_refl _ | (simp only [go_sem, leV, leVL, leD, leDL, lenc_nil, leD_refl, leDL_refl, lstD_le, ↓reduceIte]; done))
end Go.Pv.Tryd

namespace Go.Pv.Tryd
open Go.Proofs Go.Pv
theorem m_slices_Compare_ok (s11 : (List Int)) (s21 : (List Int)) (r : Int) (h : m_slices_Compare s11 s21 = some r) : PureFn Tryd.prog G 81 [.d (.imm 1 (lenc (PD.int .i64) s11)), .d (.imm 1 (lenc (PD.int .i64) s21))] (.d (.int .i64 r)) := by
 unfold m_slices_Compare at h
 refine PureFn.intro2 Tryd.func81 (by rfl) (by rw [Tryd.ntmps81]; simp) ?_
 rw [Tryd.ntmps81]
 simp only [argEnv, reduceCtorEq, ↓reduceIte, Nat.reduceAdd, Nat.reduceMul, Nat.reduceLT, Nat.reduceLeDiff, Nat.reduceEqDiff, Nat.reduceBEq, Int.reduceToNat]
 refine AWp.seq fun K_1 hK_1 => AWp.reg ?_
 iterate 1 (refine AOps.consU fun K' hK' => ?_; simp (disch := omega) only [go_sem, ↓reduceIte]; refine hK' _ ?_; clear hK' K')
 refine AOps.nil ?_
 simp only [Post.then]
 refine hK_1 _ ?_
 clear hK_1 K_1
 obtain ⟨o_2, hj_3, h⟩ := bind_some h
 refine AWp.seqI (fun i_43 : Unit => ⟨[(0, .d (.imm 1 (lenc (PD.int .i64) s11))), (1, .d (.imm 1 (lenc (PD.int .i64) s21)))], [], [], none⟩) (fun i_43 => o_2 = (.inl i_43)) ?_ ?_
 ·refine AWp.seq fun K_4 hK_4 => AWp.reg ?_
  iterate 3 (refine AOps.consU fun K' hK' => ?_; simp (disch := omega) only [go_sem, ↓reduceIte]; refine hK' _ ?_; clear hK' K')
  refine AOps.nil ?_
  simp only [Post.then]
  refine hK_4 _ ?_
  clear hK_4 K_4
  refine AWp.block ?_
  obtain ⟨x_9, hl_6, h2_7⟩ := bind_some hj_3
  obtain ⟨n_5, hl_6⟩ := iter_some hl_6
  refine AWp.loopI (fun i_37 : Nat × Int => ⟨[(0, .d (.imm 1 (lenc (PD.int .i64) s11))), (1, .d (.imm 1 (lenc (PD.int .i64) s21))), (9, .d (.imm 1 (lenc (PD.int .i64) s11))), (10, .d (.int .i64 (s11.length : Int))), (11, .d (.int .i64 i_37.2))], [], [], none⟩) (fun i_37 => iterN (m_slices_Compare_l1 s11 s21) i_37.1 i_37.2 = some x_9) (fun i_37 => i_37.1) (n_5, 0) hl_6 (Sub.mk ⟨rfl, rfl, rfl, rfl, rfl, trivial⟩ trivial ⟨trivial, trivial, trivial, trivial, trivial, trivial⟩ trivial ⟨rfl, trivial, rfl⟩) ?_
  clear hl_6
  rintro ⟨n_5, v1⟩ hl_6
  try dsimp only at hl_6
  try dsimp only
  cases n_5 with
  | zero => cases hl_6
  | succ n_5 =>
   rw [iterN_succ] at hl_6
   obtain ⟨ob_10, hb_8, hl_6⟩ := bind_some hl_6
   unfold m_slices_Compare_l1 at hb_8
   try dsimp only at hb_8
   refine AWp.seq fun K_11 hK_11 => AWp.reg ?_
   iterate 1 (refine AOps.consU fun K' hK' => ?_; simp (disch := omega) only [go_sem, ↓reduceIte]; refine hK' _ ?_; clear hK' K')
   refine AOps.nil ?_
   simp only [Post.then]
   refine hK_11 _ ?_
   clear hK_11 K_11
   refine AWp.seq fun K_12 hK_12 => ?_
   refine AWp.cond (b := (decide (v1 < (s11.length : Int)))) (by rfl) (fun hb_13 => ?_) (fun hb_13 => ?_)
   ·rw [hb_13, cond_true] at hb_8
    refine AWp.skip ?_
    simp only [Post.then, Post.inBlock, ↓reduceIte, Nat.reduceEqDiff]
    refine hK_12 _ ?_
    clear hK_12 K_12
    refine AWp.seq fun K_14 hK_14 => ?_
    refine AWp.block ?_
    refine AWp.seq fun K_15 hK_15 => AWp.reg ?_
    obtain ⟨e1, hx_16, hb_8⟩ := bind_some hb_8
    obtain ⟨f_17, f_18, f_19, f_20⟩ := idx_some hx_16
    iterate 5 (refine AOps.consU fun K' hK' => ?_; simp (disch := omega) only [go_sem, f_19, ↓reduceIte]; refine hK' _ ?_; clear hK' K')
    refine AOps.nil ?_
    simp only [Post.then]
    refine hK_15 _ ?_
    clear hK_15 K_15
    refine AWp.seq fun K_21 hK_21 => ?_
    refine AWp.seq fun K_22 hK_22 => AWp.reg ?_
    iterate 4 (refine AOps.consU fun K' hK' => ?_; simp (disch := omega) only [go_sem, ↓reduceIte]; refine hK' _ ?_; clear hK' K')
    refine AOps.nil ?_
    simp only [Post.then]
    refine hK_22 _ ?_
    clear hK_22 K_22
    refine AWp.cond (b := (decide ((s21.length : Int) ≤ v1))) (by rfl) (fun hb_23 => ?_) (fun hb_23 => ?_)
    ·rw [hb_23, cond_true] at hb_8
     refine AWp.seq fun K_24 hK_24 => AWp.reg ?_
     iterate 1 (refine AOps.consU fun K' hK' => ?_; simp (disch := omega) only [go_sem, ↓reduceIte]; refine hK' _ ?_; clear hK' K')
     refine AOps.nil ?_
     simp only [Post.then]
     refine hK_24 _ ?_
     clear hK_24 K_24
     refine AWp.ret ?_
     simp only [Post.then, Post.inBlock, Go.Pv.Fin, Go.Pv.FinG]
     rw [← Option.some.inj hb_8] at hl_6
     try dsimp only at hl_6
     rw [← Option.some.inj hl_6] at h2_7
     try dsimp only at h2_7
     rw [← Option.some.inj h2_7] at h
     try dsimp only at h
     rw [← Option.some.inj h]
     refine ⟨.d (.int .i64 1), ?_, (by first | exact True.intro | rfl), .d (.int .i64 1), ?_, ?_⟩
     ·simp only [go_sem, Tryd.results81, List.length_append, List.length_set, List.length_replicate, ↓reduceIte]
     ·simp only [go_sem, lenc_nil, List.take_length, List.length_append, List.length_set, List.length_replicate, ↓reduceIte]
     ·(first | exact leV_refl _ | (simp only [go_sem, leV, leVL, leD, leDL, lenc_nil, leD_refl, leDL_refl, lstD_le, ↓reduceIte]; done))
    ·rw [hb_23, cond_false] at hb_8
     refine AWp.skip ?_
     simp only [Post.then, Post.inBlock, ↓reduceIte, Nat.reduceEqDiff]
     refine hK_21 _ ?_
     clear hK_21 K_21
     refine AWp.seq fun K_25 hK_25 => AWp.reg ?_
     obtain ⟨e2, hx_26, hb_8⟩ := bind_some hb_8
     obtain ⟨f_27, f_28, f_29, f_30⟩ := idx_some hx_26
     iterate 5 (refine AOps.consU fun K' hK' => ?_; simp (disch := omega) only [go_sem, f_29, ↓reduceIte]; refine hK' _ ?_; clear hK' K')
     refine AOps.nil ?_
     simp only [Post.then]
     refine hK_25 _ ?_
     clear hK_25 K_25
     refine AWp.seq fun K_31 hK_31 => AWp.reg ?_
     iterate 2 (refine AOps.consU fun K' hK' => ?_; simp (disch := omega) only [go_sem, ↓reduceIte]; refine hK' _ ?_; clear hK' K')
     obtain ⟨r1, hx_32, hb_8⟩ := bind_some hb_8
     refine AOps.consU fun K' hK' => ?_; simp (disch := omega) only [go_sem, ↓reduceIte]; refine OpT.call (by rfl) (by rfl) (by kernel_rfl) (m_cmp_Compare_ok e1 e2 _ hx_32) (by exact ⟨rfl, rfl, trivial⟩) (by simp only [go_sem, ↓reduceIte]) ?_ (by simp only [go_sem]); simp only [go_sem, ↓reduceIte]; refine hK' _ ?_; clear hK' K'
     iterate 1 (refine AOps.consU fun K' hK' => ?_; simp (disch := omega) only [go_sem, ↓reduceIte]; refine hK' _ ?_; clear hK' K')
     refine AOps.nil ?_
     simp only [Post.then]
     refine hK_31 _ ?_
     clear hK_31 K_31
     refine AWp.seq fun K_33 hK_33 => AWp.reg ?_
     iterate 2 (refine AOps.consU fun K' hK' => ?_; simp (disch := omega) only [go_sem, ↓reduceIte]; refine hK' _ ?_; clear hK' K')
     refine AOps.nil ?_
     simp only [Post.then]
     refine hK_33 _ ?_
     clear hK_33 K_33
     refine AWp.cond (b := (decide (¬r1 = 0))) (by rfl) (fun hb_34 => ?_) (fun hb_34 => ?_)
     ·rw [hb_34, cond_true] at hb_8
      refine AWp.seq fun K_35 hK_35 => AWp.reg ?_
      iterate 2 (refine AOps.consU fun K' hK' => ?_; simp (disch := omega) only [go_sem, ↓reduceIte]; refine hK' _ ?_; clear hK' K')
      refine AOps.nil ?_
      simp only [Post.then]
      refine hK_35 _ ?_
      clear hK_35 K_35
      refine AWp.ret ?_
      simp only [Post.then, Post.inBlock, Go.Pv.Fin, Go.Pv.FinG]
      rw [← Option.some.inj hb_8] at hl_6
      try dsimp only at hl_6
      rw [← Option.some.inj hl_6] at h2_7
      try dsimp only at h2_7
      rw [← Option.some.inj h2_7] at h
      try dsimp only at h
      rw [← Option.some.inj h]
      refine ⟨.d (.int .i64 r1), ?_, (by first | exact True.intro | rfl), .d (.int .i64 r1), ?_, ?_⟩
      ·simp only [go_sem, Tryd.results81, List.length_append, List.length_set, List.length_replicate, ↓reduceIte]
      ·simp only [go_sem, lenc_nil, List.take_length, List.length_append, List.length_set, List.length_replicate, ↓reduceIte]
      ·(first | exact leV_refl _ | (simp only [go_sem, leV, leVL, leD, leDL, lenc_nil, leD_refl, leDL_refl, lstD_le, ↓reduceIte]; done))
     ·rw [hb_34, cond_false] at hb_8
      refine AWp.skip ?_
      simp only [Post.then, Post.inBlock, ↓reduceIte, Nat.reduceEqDiff]
      refine hK_14 _ ?_
      clear hK_14 K_14
      refine AWp.reg ?_
      iterate 2 (refine AOps.consU fun K' hK' => ?_; simp (disch := omega) only [go_sem, ↓reduceIte]; refine hK' _ ?_; clear hK' K')
      refine AOps.nil ?_
      simp only [Post.then, Post.inBlock, ↓reduceIte, Nat.reduceEqDiff]
      rw [← Option.some.inj hb_8] at hl_6
      try dsimp only at hl_6
      exact ⟨(n_5, (IntKind.i64.wrap (v1 + 1))), hl_6, Nat.lt_succ_self n_5, (Sub.mk ⟨rfl, rfl, rfl, rfl, rfl, trivial⟩ trivial ⟨trivial, trivial, trivial, trivial, trivial, trivial⟩ trivial ⟨rfl, trivial, rfl⟩)⟩
   ·rw [hb_13, cond_false] at hb_8
    refine AWp.exit ?_
    simp only [Post.then, Post.inBlock, ↓reduceIte, Nat.reduceEqDiff]
    rw [← Option.some.inj hb_8] at hl_6
    try dsimp only at hl_6
    rw [← Option.some.inj hl_6] at h2_7
    try dsimp only at h2_7
    exact ⟨(), (Option.some.inj h2_7).symm, (Sub.mk ⟨rfl, rfl, trivial⟩ trivial ⟨trivial, trivial, trivial⟩ trivial ⟨rfl, trivial, rfl⟩)⟩
 ·rintro _ hx_44
  rw [hx_44] at h
  try dsimp only at h
  try dsimp only
  refine AWp.seq fun K_38 hK_38 => ?_
  refine AWp.seq fun K_39 hK_39 => AWp.reg ?_
  iterate 5 (refine AOps.consU fun K' hK' => ?_; simp (disch := omega) only [go_sem, ↓reduceIte]; refine hK' _ ?_; clear hK' K')
  refine AOps.nil ?_
  simp only [Post.then]
  refine hK_39 _ ?_
  clear hK_39 K_39
  refine AWp.cond (b := (decide ((s11.length : Int) < (s21.length : Int)))) (by rfl) (fun hb_40 => ?_) (fun hb_40 => ?_)
  ·rw [hb_40, cond_true] at h
   refine AWp.seq fun K_41 hK_41 => AWp.reg ?_
   iterate 1 (refine AOps.consU fun K' hK' => ?_; simp (disch := omega) only [go_sem, ↓reduceIte]; refine hK' _ ?_; clear hK' K')
   refine AOps.nil ?_
   simp only [Post.then]
   refine hK_41 _ ?_
   clear hK_41 K_41
   refine AWp.ret ?_
   simp only [Post.then, Post.inBlock, Go.Pv.Fin, Go.Pv.FinG]
   rw [← Option.some.inj h]
   refine ⟨.d (.int .i64 (-1)), ?_, (by first | exact True.intro | rfl), .d (.int .i64 (-1)), ?_, ?_⟩
   ·simp only [go_sem, Tryd.results81, List.length_append, List.length_set, List.length_replicate, ↓reduceIte]
   ·simp only [go_sem, lenc_nil, List.take_length, List.length_append, List.length_set, List.length_replicate, ↓reduceIte]
   ·(first | exact leV_refl _ | (simp only [go_sem, leV, leVL, leD, leDL, lenc_nil, leD_refl, leDL_refl, lstD_le, ↓reduceIte]; done))
  ·rw [hb_40, cond_false] at h
   refine AWp.skip ?_
   simp only [Post.then, Post.inBlock, ↓reduceIte, Nat.reduceEqDiff]
   refine hK_38 _ ?_
   clear hK_38 K_38
   refine AWp.seq fun K_42 hK_42 => AWp.reg ?_
   iterate 1 (refine AOps.consU fun K' hK' => ?_; simp (disch := omega) only [go_sem, ↓reduceIte]; refine hK' _ ?_; clear hK' K')
   refine AOps.nil ?_
   simp only [Post.then]
   refine hK_42 _ ?_
   clear hK_42 K_42
   refine AWp.ret ?_
   simp only [Post.then, Post.inBlock, Go.Pv.Fin, Go.Pv.FinG]
   rw [← Option.some.inj h]
   refine ⟨.d (.int .i64 0), ?_, (by first | exact True.intro | rfl), .d (.int .i64 0), ?_, ?_⟩
   ·simp only [go_sem, Tryd.results81, List.length_append, List.length_set, List.length_replicate, ↓reduceIte]
   ·simp only [go_sem, lenc_nil, List.take_length, List.length_append, List.length_set, List.length_replicate, ↓reduceIte]
   ·(first | exact leV_refl _ | (simp only [go_sem, leV, leVL, leD, leDL, lenc_nil, leD_refl, leDL_refl, lstD_le, ↓reduceIte]; done))
end Go.Pv.Tryd

namespace Go.Pv.Tryd
open Go.Proofs Go.Pv
theorem m_rate_market_round_ok (m1 : Market) (r : (List Int)) (h : m_rate_market_round m1 = some r) : PureFn Tryd.prog G 54 [.d (.agg [(.int .i64 m1.n), (.imm 4 (lenc Offer.pd m1.offers))])] (.d (lstD 1 (lenc (PD.int .i64) r))) := by
 unfold m_rate_market_round at h
 refine PureFn.intro2 Tryd.func54 (by rfl) (by rw [Tryd.ntmps54]; simp) ?_
 rw [Tryd.ntmps54]
 simp only [argEnv, reduceCtorEq, ↓reduceIte, Nat.reduceAdd, Nat.reduceMul, Nat.reduceLT, Nat.reduceLeDiff, Nat.reduceEqDiff, Nat.reduceBEq, Int.reduceToNat]
 refine AWp.seq fun K_1 hK_1 => AWp.reg ?_
 iterate 2 (refine AOps.consU fun K' hK' => ?_; simp (disch := omega) only [go_sem, ↓reduceIte]; refine hK' _ ?_; clear hK' K')
 refine AOps.nil ?_
 simp only [Post.then]
 refine hK_1 _ ?_
 clear hK_1 K_1
 obtain ⟨o_2, hj_3, h⟩ := bind_some h
 refine AWp.seqI (fun i_72 : Unit => ⟨[], [], [], none⟩) (fun i_72 => o_2 = (.inl i_72)) ?_ ?_
 ·refine AWp.seq fun K_4 hK_4 => AWp.reg ?_
  iterate 1 (refine AOps.consU fun K' hK' => ?_; simp (disch := omega) only [go_sem, ↓reduceIte]; refine hK' _ ?_; clear hK' K')
  refine AOps.nil ?_
  simp only [Post.then]
  refine hK_4 _ ?_
  clear hK_4 K_4
  refine AWp.block ?_
  obtain ⟨x_9, hl_6, h2_7⟩ := bind_some hj_3
  obtain ⟨n_5, hl_6⟩ := iter_some hl_6
  refine AWp.loopI (fun i_70 : Nat × Int => ⟨[(1, .ptr 1000 0 0), (3, .d (.int .i64 i_70.2))], [(1000, ⟨77, 2, [.d (.agg [(.int .i64 m1.n), (.imm 4 (lenc Offer.pd m1.offers))])]⟩)], [], none⟩) (fun i_70 => iterN (m_rate_market_round_l1 m1) i_70.1 i_70.2 = some x_9) (fun i_70 => i_70.1) (n_5, 2) hl_6 (Sub.mk ⟨rfl, rfl, trivial⟩ ⟨rfl, trivial⟩ ⟨rfl, trivial, trivial⟩ ⟨⟨trivial, trivial⟩, trivial⟩ ⟨rfl, trivial, rfl⟩) ?_
  clear hl_6
  rintro ⟨n_5, length1⟩ hl_6
  try dsimp only at hl_6
  try dsimp only
  cases n_5 with
  | zero => cases hl_6
  | succ n_5 =>
   rw [iterN_succ] at hl_6
   obtain ⟨ob_10, hb_8, hl_6⟩ := bind_some hl_6
   unfold m_rate_market_round_l1 at hb_8
   try dsimp only at hb_8
   refine AWp.seq fun K_11 hK_11 => ?_
   refine AWp.seq fun K_12 hK_12 => AWp.reg ?_
   iterate 4 (refine AOps.consU fun K' hK' => ?_; simp (disch := omega) only [go_sem, ↓reduceIte]; refine hK' _ ?_; clear hK' K')
   refine AOps.nil ?_
   simp only [Post.then]
   refine hK_12 _ ?_
   clear hK_12 K_12
   refine AWp.cond (b := (decide (length1 ≤ m1.n))) (by rfl) (fun hb_13 => ?_) (fun hb_13 => ?_)
   ·rw [hb_13, cond_true] at hb_8
    refine AWp.skip ?_
    simp only [Post.then, Post.inBlock, ↓reduceIte, Nat.reduceEqDiff]
    refine hK_11 _ ?_
    clear hK_11 K_11
    obtain ⟨o_14, hj_15, hb_8⟩ := bind_some hb_8
    refine AWp.seqI (fun i_68 : Unit => ⟨[(1, .ptr 1000 0 0), (3, .d (.int .i64 length1))], [(1000, ⟨77, 2, [.d (.agg [(.int .i64 m1.n), (.imm 4 (lenc Offer.pd m1.offers))])]⟩)], [], none⟩) (fun i_68 => o_14 = (.inl i_68)) ?_ ?_
    ·refine AWp.block ?_
     refine AWp.seq fun K_16 hK_16 => AWp.reg ?_
     iterate 1 (refine AOps.consU fun K' hK' => ?_; simp (disch := omega) only [go_sem, ↓reduceIte]; refine hK' _ ?_; clear hK' K')
     refine AOps.nil ?_
     simp only [Post.then]
     refine hK_16 _ ?_
     clear hK_16 K_16
     obtain ⟨o_17, hj_18, hj_15⟩ := bind_some hj_15
     refine AWp.seqI (fun i_65 : (List Int) => ⟨[(1, .ptr 1000 0 0), (3, .d (.int .i64 length1)), (4, .ptr 1001 0 0)], [(1000, ⟨77, 2, [.d (.agg [(.int .i64 m1.n), (.imm 4 (lenc Offer.pd m1.offers))])]⟩), (1001, ⟨27, 1, [.d (lstD 1 (lenc (PD.int .i64) i_65))]⟩)], [], none⟩) (fun i_65 => o_17 = i_65) ?_ ?_
     ·refine AWp.seq fun K_19 hK_19 => AWp.reg ?_
      iterate 3 (refine AOps.consU fun K' hK' => ?_; simp (disch := omega) only [go_sem, ↓reduceIte]; refine hK' _ ?_; clear hK' K')
      refine AOps.nil ?_
      simp only [Post.then]
      refine hK_19 _ ?_
      clear hK_19 K_19
      refine AWp.block ?_
      obtain ⟨x_24, hl_21, h2_22⟩ := bind_some hj_18
      obtain ⟨n_20, hl_21⟩ := iter_some hl_21
      refine AWp.loopI (fun i_61 : Nat × (Int × (List Int)) => ⟨[(1, .ptr 1000 0 0), (3, .d (.int .i64 length1)), (4, .ptr 1001 0 0), (14, .d (.int .i64 m1.n)), (15, .d (.int .i64 i_61.2.1))], [(1000, ⟨77, 2, [.d (.agg [(.int .i64 m1.n), (.imm 4 (lenc Offer.pd m1.offers))])]⟩), (1001, ⟨27, 1, [.d (lstD 1 (lenc (PD.int .i64) i_61.2.2))]⟩)], [], none⟩) (fun i_61 => iterN (m_rate_market_round_l2 m1 length1) i_61.1 i_61.2 = some x_24) (fun i_61 => i_61.1) (n_20, (0, [])) hl_21 (Sub.mk ⟨rfl, rfl, rfl, rfl, rfl, trivial⟩ ⟨rfl, rfl, trivial⟩ ⟨rfl, trivial, rfl, trivial, trivial, trivial⟩ ⟨⟨trivial, trivial⟩, ⟨trivial, trivial⟩, trivial⟩ ⟨rfl, trivial, rfl⟩) ?_
      clear hl_21
      rintro ⟨n_20, v1, c2⟩ hl_21
      try dsimp only at hl_21
      try dsimp only
      cases n_20 with
      | zero => cases hl_21
      | succ n_20 =>
       rw [iterN_succ] at hl_21
       obtain ⟨ob_25, hb_23, hl_21⟩ := bind_some hl_21
       unfold m_rate_market_round_l2 at hb_23
       try dsimp only at hb_23
       refine AWp.seq fun K_26 hK_26 => AWp.reg ?_
       iterate 1 (refine AOps.consU fun K' hK' => ?_; simp (disch := omega) only [go_sem, ↓reduceIte]; refine hK' _ ?_; clear hK' K')
       refine AOps.nil ?_
       simp only [Post.then]
       refine hK_26 _ ?_
       clear hK_26 K_26
       refine AWp.seq fun K_27 hK_27 => ?_
       refine AWp.cond (b := (decide (v1 < m1.n))) (by rfl) (fun hb_28 => ?_) (fun hb_28 => ?_)
       ·rw [hb_28, cond_true] at hb_23
        refine AWp.skip ?_
        simp only [Post.then, Post.inBlock, ↓reduceIte, Nat.reduceEqDiff]
        refine hK_27 _ ?_
        clear hK_27 K_27
        obtain ⟨o_29, hj_30, hb_23⟩ := bind_some hb_23
        refine AWp.seqI (fun i_59 : (List Int) => ⟨[(1, .ptr 1000 0 0), (3, .d (.int .i64 length1)), (4, .ptr 1001 0 0), (14, .d (.int .i64 m1.n)), (15, .d (.int .i64 v1))], [(1000, ⟨77, 2, [.d (.agg [(.int .i64 m1.n), (.imm 4 (lenc Offer.pd m1.offers))])]⟩), (1001, ⟨27, 1, [.d (lstD 1 (lenc (PD.int .i64) i_59))]⟩)], [], none⟩) (fun i_59 => o_29 = i_59) ?_ ?_
        ·refine AWp.block ?_
         refine AWp.seq fun K_31 hK_31 => AWp.reg ?_
         iterate 2 (refine AOps.consU fun K' hK' => ?_; simp (disch := omega) only [go_sem, ↓reduceIte]; refine hK' _ ?_; clear hK' K')
         refine AOps.nil ?_
         simp only [Post.then]
         refine hK_31 _ ?_
         clear hK_31 K_31
         refine AWp.seq fun K_32 hK_32 => AWp.reg ?_
         iterate 3 (refine AOps.consU fun K' hK' => ?_; simp (disch := omega) only [go_sem, ↓reduceIte]; refine hK' _ ?_; clear hK' K')
         obtain ⟨hg_33, hj_30⟩ := guardO_some hj_30
         refine AOps.consU fun K' hK' => ?_; simp (disch := omega) only [go_sem, ↓reduceIte]; refine OpT.call (by rfl) (by rfl) (by kernel_rfl) (walks_fn m1 v1 length1 true) (by exact ⟨rfl, rfl, rfl, rfl, trivial⟩) (by simp only [go_sem, ↓reduceIte]) ?_ (by simp only [go_sem]); simp only [go_sem, ↓reduceIte]; refine hK' _ ?_; clear hK' K'
         refine AOps.nil ?_
         simp only [Post.then]
         refine hK_32 _ ?_
         clear hK_32 K_32
         refine AWp.block ?_
         refine AWp.sub (τ := ⟨[(1, .ptr 1000 0 0), (3, .d (.int .i64 length1)), (4, .ptr 1001 0 0), (14, .d (.int .i64 m1.n)), (15, .d (.int .i64 v1)), (21, .func (.func 93) [.dptr 2 [(.agg [(.int .i64 m1.n), (.imm 4 (lenc Offer.pd m1.offers))])] 0 0, .dptr 1 [.int .i64 length1] 0 0, .dptr 1 [.int .i64 v1] 0 0, .dptr 1 [.bool true] 0 0])], [(1000, ⟨77, 2, [.d (.agg [(.int .i64 m1.n), (.imm 4 (lenc Offer.pd m1.offers))])]⟩), (1001, ⟨27, 1, [.d (lstD 1 (lenc (PD.int .i64) c2))]⟩)], [], none⟩) (Sub.mk ⟨rfl, rfl, rfl, rfl, rfl, rfl, trivial⟩ ⟨rfl, rfl, trivial⟩ ⟨rfl, trivial, rfl, trivial, trivial, (by simp only [go_sem, ↓reduceIte]), trivial⟩ ⟨⟨trivial, trivial⟩, ⟨trivial, trivial⟩, trivial⟩ ⟨rfl, trivial, rfl⟩) ?_
         obtain ⟨o_52, hl_53, h2_54⟩ := bind_some hj_30
         refine AWp.rangeL Walk.pd (walksL m1 v1 length1 true) (fun i_57 : (List Int) => [(1000, ⟨77, 2, [.d (.agg [(.int .i64 m1.n), (.imm 4 (lenc Offer.pd m1.offers))])]⟩), (1001, ⟨27, 1, [.d (lstD 1 (lenc (PD.int .i64) i_57))]⟩)]) 4 (fun i_57 : (List Int) => [(1000, ⟨77, 2, [.d (.agg [(.int .i64 m1.n), (.imm 4 (lenc Offer.pd m1.offers))])]⟩), (1001, ⟨27, 1, [.d (lstD 1 (lenc (PD.int .i64) i_57))]⟩)]) (m_rate_market_round_r3) c2 (by rfl) (by simp only [go_sem]) (by kernel_rfl) (walks_seq m1 v1 length1 true hg_33) rfl rfl (by rfl) (by decide) (by simp only [go_sem, clean, cleanL, dl_clean, ↓reduceIte]) (fun _ => by simp only [go_sem, clean, cleanL, dl_clean, ↓reduceIte]) (fun _ => by simp only [go_sem, clean, cleanL, dl_clean, ↓reduceIte]) hl_53 ?_ ?_ ?_
         ·rintro l_37 c4 x1 q_36 hraw_34
          have hb_35 := hraw_34
          unfold m_rate_market_round_r3 at hb_35
          try dsimp only at hb_35
          try dsimp only
          simp only [eput, ↓reduceIte, Nat.reduceEqDiff]
          refine AWp.reg ?_
          iterate 2 (refine AOps.consU fun K' hK' => ?_; simp (disch := omega) only [go_sem, ↓reduceIte]; refine hK' _ ?_; clear hK' K')
          refine AOps.nil ?_
          simp only [Post.then, Post.inBlock, ↓reduceIte, Nat.reduceEqDiff]
          refine AWp.block ?_
          refine AWp.seq fun K_39 hK_39 => AWp.reg ?_
          iterate 3 (refine AOps.consU fun K' hK' => ?_; simp (disch := omega) only [go_sem, ↓reduceIte]; refine hK' _ ?_; clear hK' K')
          obtain ⟨r1, hx_40, hb_35⟩ := bind_some hb_35
          refine AOps.consU fun K' hK' => ?_; simp (disch := omega) only [go_sem, ↓reduceIte]; refine OpT.call (by rfl) (by rfl) (by kernel_rfl) (m_rate_above_ok x1.rate (⟨1, 1⟩ : Ratio) _ hx_40) (by exact ⟨rfl, rfl, trivial⟩) (by simp only [go_sem, ↓reduceIte]) ?_ (by simp only [go_sem]); simp only [go_sem, ↓reduceIte]; refine hK' _ ?_; clear hK' K'
          refine AOps.nil ?_
          simp only [Post.then]
          refine hK_39 _ ?_
          clear hK_39 K_39
          refine AWp.cond (b := r1) (by rfl) (fun hb_41 => ?_) (fun hb_41 => ?_)
          ·rw [hb_41, cond_true] at hb_35
           obtain ⟨o_42, hj_43, hb_35⟩ := bind_some hb_35
           refine AWp.seqI (fun i_50 : (List Int) => ⟨[(1, .ptr 1000 0 0), (3, .d (.int .i64 length1)), (4, .ptr 1001 0 0), (14, .d (.int .i64 m1.n)), (15, .d (.int .i64 v1)), (22, .d (.agg [(lstD 1 (lenc (PD.int .i64) x1.list)), (.int .i64 x1.rate.Num), (.int .i64 x1.rate.Den), (.int .i64 x1.to)]))], [(1000, ⟨77, 2, [.d (.agg [(.int .i64 m1.n), (.imm 4 (lenc Offer.pd m1.offers))])]⟩), (1001, ⟨27, 1, [.d (lstD 1 (lenc (PD.int .i64) i_50))]⟩)], [.func (.func 0) (envL [(1, .ptr 1000 0 0), (3, .d (.int .i64 length1)), (4, .ptr 1001 0 0), (14, .d (.int .i64 m1.n)), (15, .d (.int .i64 v1)), (21, .func (.func 93) [.dptr 2 [(.agg [(.int .i64 m1.n), (.imm 4 (lenc Offer.pd m1.offers))])] 0 0, .dptr 1 [.int .i64 length1] 0 0, .dptr 1 [.int .i64 v1] 0 0, .dptr 1 [.bool true] 0 0])])], none⟩) (fun i_50 => o_42 = i_50) ?_ ?_
           ·refine AWp.seq fun K_44 hK_44 => AWp.reg ?_
            iterate 3 (refine AOps.consU fun K' hK' => ?_; simp (disch := omega) only [go_sem, ↓reduceIte]; refine hK' _ ?_; clear hK' K')
            obtain ⟨b1, hc_45, hj_43⟩ := bind_some hj_43
            refine AOps.cut 6 (⟨[(1, .ptr 1000 0 0), (3, .d (.int .i64 length1)), (4, .ptr 1001 0 0), (6, .ptr 1002 0 0), (14, .d (.int .i64 m1.n)), (15, .d (.int .i64 v1)), (22, .d (.agg [(lstD 1 (lenc (PD.int .i64) x1.list)), (.int .i64 x1.rate.Num), (.int .i64 x1.rate.Den), (.int .i64 x1.to)])), (35, .d (.bool b1))], [(1000, ⟨77, 2, [.d (.agg [(.int .i64 m1.n), (.imm 4 (lenc Offer.pd m1.offers))])]⟩), (1001, ⟨27, 1, [.d (lstD 1 (lenc (PD.int .i64) c4))]⟩), (1002, ⟨83, 4, [.d (.agg [(lstD 1 (lenc (PD.int .i64) x1.list)), (.int .i64 x1.rate.Num), (.int .i64 x1.rate.Den), (.int .i64 x1.to)])]⟩)], [.func (.func 0) (envL [(1, .ptr 1000 0 0), (3, .d (.int .i64 length1)), (4, .ptr 1001 0 0), (14, .d (.int .i64 m1.n)), (15, .d (.int .i64 v1)), (21, .func (.func 93) [.dptr 2 [(.agg [(.int .i64 m1.n), (.imm 4 (lenc Offer.pd m1.offers))])] 0 0, .dptr 1 [.int .i64 length1] 0 0, .dptr 1 [.int .i64 v1] 0 0, .dptr 1 [.bool true] 0 0])])], none⟩) ?_ ?_
            ·simp only [List.take_succ_cons, List.take_zero]
             rcases Bool.eq_false_or_eq_true ((c4).isEmpty) with hg_47 | hg_47
             ·rw [hg_47]
              rw [hg_47, cond_true] at hc_45
              iterate 6 (refine AOps.consU fun K' hK' => ?_; simp (disch := omega) only [go_sem, ↓reduceIte]; refine hK' _ ?_; clear hK' K')
              refine AOps.nil ?_
              have hc_45 := Option.some.inj hc_45
              subst hc_45
              exact (Sub.mk ⟨rfl, rfl, rfl, rfl, rfl, rfl, rfl, rfl, trivial⟩ ⟨rfl, rfl, rfl, trivial⟩ ⟨rfl, trivial, rfl, rfl, trivial, trivial, trivial, trivial, trivial⟩ ⟨⟨trivial, trivial⟩, ⟨trivial, trivial⟩, ⟨trivial, trivial⟩, trivial⟩ ⟨rfl, (by simp only [go_sem, envL, envLGo, ↓reduceIte]), rfl⟩)
             ·rw [hg_47]
              rw [hg_47, cond_false] at hc_45
              iterate 3 (refine AOps.consU fun K' hK' => ?_; simp (disch := omega) only [go_sem, ↓reduceIte]; refine hK' _ ?_; clear hK' K')
              refine AOps.sub (τ := ⟨[(1, .ptr 1000 0 0), (3, .d (.int .i64 length1)), (4, .ptr 1001 0 0), (6, .ptr 1002 0 0), (14, .d (.int .i64 m1.n)), (15, .d (.int .i64 v1)), (22, .d (.agg [(lstD 1 (lenc (PD.int .i64) x1.list)), (.int .i64 x1.rate.Num), (.int .i64 x1.rate.Den), (.int .i64 x1.to)])), (29, .d (.bool false)), (30, .ptr 1002 0 0), (31, .d (.imm 1 (lenc (PD.int .i64) x1.list))), (32, .d (.imm 1 (lenc (PD.int .i64) c4)))], [(1000, ⟨77, 2, [.d (.agg [(.int .i64 m1.n), (.imm 4 (lenc Offer.pd m1.offers))])]⟩), (1001, ⟨27, 1, [.d (lstD 1 (lenc (PD.int .i64) c4))]⟩), (1002, ⟨83, 4, [.d (.agg [(lstD 1 (lenc (PD.int .i64) x1.list)), (.int .i64 x1.rate.Num), (.int .i64 x1.rate.Den), (.int .i64 x1.to)])]⟩)], [.func (.func 0) (envL [(1, .ptr 1000 0 0), (3, .d (.int .i64 length1)), (4, .ptr 1001 0 0), (14, .d (.int .i64 m1.n)), (15, .d (.int .i64 v1)), (21, .func (.func 93) [.dptr 2 [(.agg [(.int .i64 m1.n), (.imm 4 (lenc Offer.pd m1.offers))])] 0 0, .dptr 1 [.int .i64 length1] 0 0, .dptr 1 [.int .i64 v1] 0 0, .dptr 1 [.bool true] 0 0])])], none⟩) (Sub.cv ⟨rfl, rfl, rfl, trivial⟩ ⟨.inl ⟨leV_refl _, rfl⟩, .inl ⟨leV_refl _, trivial⟩, .inl ⟨leV_refl _, rfl⟩, .inl ⟨leV_refl _, rfl⟩, .inl ⟨leV_refl _, trivial⟩, .inl ⟨leV_refl _, trivial⟩, .inl ⟨leV_refl _, trivial⟩, .inl ⟨leV_refl _, trivial⟩, .inl ⟨leV_refl _, rfl⟩, .inl ⟨by simp only [leV]; exact lstD_le _ _, trivial⟩, .inl ⟨by simp only [leV]; exact lstD_le _ _, trivial⟩, trivial⟩ ⟨⟨trivial, trivial⟩, ⟨trivial, trivial⟩, ⟨trivial, trivial⟩, trivial⟩ ⟨rfl, (by simp only [go_sem, envL, envLGo, ↓reduceIte]), rfl⟩) ?_
              obtain ⟨r2, hx_46, hc_45⟩ := bind_some hc_45
              refine AOps.consU fun K' hK' => ?_; simp (disch := omega) only [go_sem, ↓reduceIte]; refine OpT.call (by rfl) (by rfl) (by kernel_rfl) (m_slices_Compare_ok x1.list c4 _ hx_46) (by exact ⟨rfl, rfl, trivial⟩) (by simp only [go_sem, ↓reduceIte]) ?_ (by simp only [go_sem]); simp only [go_sem, ↓reduceIte]; refine hK' _ ?_; clear hK' K'
              iterate 2 (refine AOps.consU fun K' hK' => ?_; simp (disch := omega) only [go_sem, ↓reduceIte]; refine hK' _ ?_; clear hK' K')
              refine AOps.nil ?_
              have hc_45 := Option.some.inj hc_45
              subst hc_45
              exact (Sub.mk ⟨rfl, rfl, rfl, rfl, rfl, rfl, rfl, rfl, trivial⟩ ⟨rfl, rfl, rfl, trivial⟩ ⟨rfl, trivial, rfl, rfl, trivial, trivial, trivial, trivial, trivial⟩ ⟨⟨trivial, trivial⟩, ⟨trivial, trivial⟩, ⟨trivial, trivial⟩, trivial⟩ ⟨rfl, (by simp only [go_sem, envL, envLGo, ↓reduceIte]), rfl⟩)
            simp only [List.drop_succ_cons, List.drop_zero]
            refine AOps.nil ?_
            simp only [Post.then]
            refine hK_44 _ ?_
            clear hK_44 K_44
            refine AWp.cond (b := b1) (by rfl) (fun hb_48 => ?_) (fun hb_48 => ?_)
            ·rw [hb_48, cond_true] at hj_43
             refine AWp.reg ?_
             iterate 3 (refine AOps.consU fun K' hK' => ?_; simp (disch := omega) only [go_sem, ↓reduceIte]; refine hK' _ ?_; clear hK' K')
             refine AOps.nil ?_
             simp only [Post.then, Post.inBlock, ↓reduceIte, Nat.reduceEqDiff]
             exact ⟨x1.list, (Option.some.inj hj_43).symm, (Sub.mk ⟨rfl, rfl, rfl, rfl, rfl, rfl, trivial⟩ ⟨rfl, rfl, trivial⟩ ⟨rfl, trivial, rfl, trivial, trivial, trivial, trivial⟩ ⟨⟨trivial, trivial⟩, ⟨trivial, trivial⟩, trivial⟩ ⟨rfl, (by simp only [go_sem, envL, envLGo, ↓reduceIte]), rfl⟩)⟩
            ·rw [hb_48, cond_false] at hj_43
             refine AWp.skip ?_
             simp only [Post.then, Post.inBlock, ↓reduceIte, Nat.reduceEqDiff]
             exact ⟨c4, (Option.some.inj hj_43).symm, (Sub.mk ⟨rfl, rfl, rfl, rfl, rfl, rfl, trivial⟩ ⟨rfl, rfl, trivial⟩ ⟨rfl, trivial, rfl, trivial, trivial, trivial, trivial⟩ ⟨⟨trivial, trivial⟩, ⟨trivial, trivial⟩, trivial⟩ ⟨rfl, (by simp only [go_sem, envL, envLGo, ↓reduceIte]), rfl⟩)⟩
           ·rintro c5 hx_51
            rw [hx_51] at hb_35
            try dsimp only at hb_35
            try dsimp only
            refine AWp.exit ?_
            simp only [Post.then, Post.inBlock, ↓reduceIte, Nat.reduceEqDiff]
            show _ = _ ∧ ∃ y, _ = some (Sum.inr y) ∧ _
            exact ⟨rfl, c5, hraw_34.trans hb_35.symm, (Sub.mk trivial ⟨rfl, rfl, trivial⟩ trivial ⟨⟨trivial, trivial⟩, ⟨trivial, trivial⟩, trivial⟩ ⟨rfl, (by simp only [go_sem, envL, envLGo, ↓reduceIte]), rfl⟩)⟩
          ·rw [hb_41, cond_false] at hb_35
           refine AWp.skip ?_
           simp only [Post.then, Post.inBlock, ↓reduceIte, Nat.reduceEqDiff]
           show ∃ s, _ = some (Sum.inl s) ∧ _
           exact ⟨c4, hraw_34.trans hb_35.symm, (Sub.mk trivial ⟨rfl, rfl, trivial⟩ trivial ⟨⟨trivial, trivial⟩, ⟨trivial, trivial⟩, trivial⟩ ⟨rfl, (by simp only [go_sem, envL, envLGo, ↓reduceIte]), rfl⟩)⟩
         ·rintro c4 hx_55
          rw [hx_55] at h2_54
          try dsimp only at h2_54
          try dsimp only
          simp only [Post.then, Post.inBlock, ↓reduceIte, Nat.reduceEqDiff]
          exact ⟨c4, (Option.some.inj h2_54).symm, (Sub.mk ⟨rfl, rfl, rfl, rfl, rfl, trivial⟩ ⟨rfl, rfl, trivial⟩ ⟨rfl, trivial, rfl, trivial, trivial, trivial⟩ ⟨⟨trivial, trivial⟩, ⟨trivial, trivial⟩, trivial⟩ ⟨rfl, trivial, rfl⟩)⟩
         ·rintro c41 hy_56
          rw [hy_56] at h2_54
          try dsimp only at h2_54
          try dsimp only
          simp only [Post.then, Post.inBlock, ↓reduceIte, Nat.reduceEqDiff]
          exact ⟨c41, (Option.some.inj h2_54).symm, (Sub.mk ⟨rfl, rfl, rfl, rfl, rfl, trivial⟩ ⟨rfl, rfl, trivial⟩ ⟨rfl, trivial, rfl, trivial, trivial, trivial⟩ ⟨⟨trivial, trivial⟩, ⟨trivial, trivial⟩, trivial⟩ ⟨rfl, trivial, rfl⟩)⟩
        ·rintro c3 hx_60
         rw [hx_60] at hb_23
         try dsimp only at hb_23
         try dsimp only
         refine AWp.reg ?_
         iterate 2 (refine AOps.consU fun K' hK' => ?_; simp (disch := omega) only [go_sem, ↓reduceIte]; refine hK' _ ?_; clear hK' K')
         refine AOps.nil ?_
         simp only [Post.then, Post.inBlock, ↓reduceIte, Nat.reduceEqDiff]
         rw [← Option.some.inj hb_23] at hl_21
         try dsimp only at hl_21
         exact ⟨(n_20, ((IntKind.i64.wrap (v1 + 1)), c3)), hl_21, Nat.lt_succ_self n_20, (Sub.mk ⟨rfl, rfl, rfl, rfl, rfl, trivial⟩ ⟨rfl, rfl, trivial⟩ ⟨rfl, trivial, rfl, trivial, trivial, trivial⟩ ⟨⟨trivial, trivial⟩, ⟨trivial, trivial⟩, trivial⟩ ⟨rfl, trivial, rfl⟩)⟩
       ·rw [hb_28, cond_false] at hb_23
        refine AWp.exit ?_
        simp only [Post.then, Post.inBlock, ↓reduceIte, Nat.reduceEqDiff]
        rw [← Option.some.inj hb_23] at hl_21
        try dsimp only at hl_21
        rw [← Option.some.inj hl_21] at h2_22
        try dsimp only at h2_22
        exact ⟨c2, (Option.some.inj h2_22).symm, (Sub.mk ⟨rfl, rfl, rfl, trivial⟩ ⟨rfl, rfl, trivial⟩ ⟨rfl, trivial, rfl, trivial⟩ ⟨⟨trivial, trivial⟩, ⟨trivial, trivial⟩, trivial⟩ ⟨rfl, trivial, rfl⟩)⟩
     ·rintro c1 hx_66
      rw [hx_66] at hj_15
      try dsimp only at hj_15
      try dsimp only
      refine AWp.seq fun K_62 hK_62 => AWp.reg ?_
      iterate 2 (refine AOps.consU fun K' hK' => ?_; simp (disch := omega) only [go_sem, ↓reduceIte]; refine hK' _ ?_; clear hK' K')
      refine AOps.nil ?_
      simp only [Post.then]
      refine hK_62 _ ?_
      clear hK_62 K_62
      refine AWp.cond (b := (!(c1).isEmpty)) (by rfl) (fun hb_63 => ?_) (fun hb_63 => ?_)
      ·rw [hb_63, cond_true] at hj_15
       refine AWp.seq fun K_64 hK_64 => AWp.reg ?_
       iterate 2 (refine AOps.consU fun K' hK' => ?_; simp (disch := omega) only [go_sem, ↓reduceIte]; refine hK' _ ?_; clear hK' K')
       refine AOps.nil ?_
       simp only [Post.then]
       refine hK_64 _ ?_
       clear hK_64 K_64
       refine AWp.ret ?_
       simp only [Post.then, Post.inBlock, Go.Pv.Fin, Go.Pv.FinG]
       rw [← Option.some.inj hj_15] at hb_8
       try dsimp only at hb_8
       rw [← Option.some.inj hb_8] at hl_6
       try dsimp only at hl_6
       rw [← Option.some.inj hl_6] at h2_7
       try dsimp only at h2_7
       rw [← Option.some.inj h2_7] at h
       try dsimp only at h
       rw [← Option.some.inj h]
       refine ⟨.d (lstD 1 (lenc (PD.int .i64) c1)), ?_, (by first | exact True.intro | rfl), .d (lstD 1 (lenc (PD.int .i64) c1)), ?_, ?_⟩
       ·simp only [go_sem, Tryd.results54, List.length_append, List.length_set, List.length_replicate, ↓reduceIte]
       ·simp only [go_sem, lenc_nil, List.take_length, List.length_append, List.length_set, List.length_replicate, ↓reduceIte]
       ·(first | exact leV_refl _ | (simp only [go_sem, leV, leVL, leD, leDL, lenc_nil, leD_refl, leDL_refl, lstD_le, ↓reduceIte]; done))
      ·rw [hb_63, cond_false] at hj_15
       refine AWp.skip ?_
       simp only [Post.then, Post.inBlock, ↓reduceIte, Nat.reduceEqDiff]
       exact ⟨(), (Option.some.inj hj_15).symm, (Sub.mk ⟨rfl, rfl, trivial⟩ ⟨rfl, trivial⟩ ⟨rfl, trivial, trivial⟩ ⟨⟨trivial, trivial⟩, trivial⟩ ⟨rfl, trivial, rfl⟩)⟩
    ·rintro _ hx_69
     rw [hx_69] at hb_8
     try dsimp only at hb_8
     try dsimp only
     refine AWp.reg ?_
     iterate 3 (refine AOps.consU fun K' hK' => ?_; simp (disch := omega) only [go_sem, ↓reduceIte]; refine hK' _ ?_; clear hK' K')
     refine AOps.nil ?_
     simp only [Post.then, Post.inBlock, ↓reduceIte, Nat.reduceEqDiff]
     rw [← Option.some.inj hb_8] at hl_6
     try dsimp only at hl_6
     exact ⟨(n_5, (IntKind.i64.wrap (length1 + 1))), hl_6, Nat.lt_succ_self n_5, (Sub.mk ⟨rfl, rfl, trivial⟩ ⟨rfl, trivial⟩ ⟨rfl, trivial, trivial⟩ ⟨⟨trivial, trivial⟩, trivial⟩ ⟨rfl, trivial, rfl⟩)⟩
   ·rw [hb_13, cond_false] at hb_8
    refine AWp.exit ?_
    simp only [Post.then, Post.inBlock, ↓reduceIte, Nat.reduceEqDiff]
    rw [← Option.some.inj hb_8] at hl_6
    try dsimp only at hl_6
    rw [← Option.some.inj hl_6] at h2_7
    try dsimp only at h2_7
    exact ⟨(), (Option.some.inj h2_7).symm, (Sub.mk trivial trivial trivial trivial ⟨rfl, trivial, rfl⟩)⟩
 ·rintro _ hx_73
  rw [hx_73] at h
  try dsimp only at h
  try dsimp only
  refine AWp.seq fun K_71 hK_71 => AWp.reg ?_
  iterate 1 (refine AOps.consU fun K' hK' => ?_; simp (disch := omega) only [go_sem, ↓reduceIte]; refine hK' _ ?_; clear hK' K')
  refine AOps.nil ?_
  simp only [Post.then]
  refine hK_71 _ ?_
  clear hK_71 K_71
  refine AWp.ret ?_
  simp only [Post.then, Post.inBlock, Go.Pv.Fin, Go.Pv.FinG]
  rw [← Option.some.inj h]
  refine ⟨.d .nilslice, ?_, (by first | exact True.intro | rfl), .d .nilslice, ?_, ?_⟩
  ·simp only [go_sem, Tryd.results54, List.length_append, List.length_set, List.length_replicate, ↓reduceIte]
  ·simp only [go_sem, lenc_nil, List.take_length, List.length_append, List.length_set, List.length_replicate, ↓reduceIte]
  ·(first | exact leV_refl _ | (simp only [go_sem, leV, leVL, leD, leDL, lenc_nil, leD_refl, leDL_refl, lstD_le, ↓reduceIte]; done))
end Go.Pv.Tryd

namespace Go.Pv.Tryd
open Go.Proofs Go.Pv
theorem m_rate_market_best_ok (m1 : Market) (from1 : Int) (to1 : Int) (r : (Walk × Bool)) (h : m_rate_market_best m1 from1 to1 = some r) : PureFn Tryd.prog G 55 [.d (.agg [(.int .i64 m1.n), (.imm 4 (lenc Offer.pd m1.offers))]), .d (.int .i64 from1), .d (.int .i64 to1)] (.tuple [.d (.agg [(lstD 1 (lenc (PD.int .i64) r.1.list)), (.int .i64 r.1.rate.Num), (.int .i64 r.1.rate.Den), (.int .i64 r.1.to)]), .d (.bool r.2)]) := by
 unfold m_rate_market_best at h
 refine PureFn.intro2 Tryd.func55 (by rfl) (by rw [Tryd.ntmps55]; simp) ?_
 rw [Tryd.ntmps55]
 simp only [argEnv, reduceCtorEq, ↓reduceIte, Nat.reduceAdd, Nat.reduceMul, Nat.reduceLT, Nat.reduceLeDiff, Nat.reduceEqDiff, Nat.reduceBEq, Int.reduceToNat]
 refine AWp.seq fun K_1 hK_1 => AWp.reg ?_
 iterate 4 (refine AOps.consU fun K' hK' => ?_; simp (disch := omega) only [go_sem, ↓reduceIte]; refine hK' _ ?_; clear hK' K')
 refine AOps.nil ?_
 simp only [Post.then]
 refine hK_1 _ ?_
 clear hK_1 K_1
 refine AWp.seq fun K_2 hK_2 => ?_
 refine AWp.seq fun K_3 hK_3 => AWp.reg ?_
 iterate 3 (refine AOps.consU fun K' hK' => ?_; simp (disch := omega) only [go_sem, ↓reduceIte]; refine hK' _ ?_; clear hK' K')
 refine AOps.nil ?_
 simp only [Post.then]
 refine hK_3 _ ?_
 clear hK_3 K_3
 refine AWp.cond (b := (decide (from1 = to1))) (by rfl) (fun hb_4 => ?_) (fun hb_4 => ?_)
 ·rw [hb_4, cond_true] at h
  refine AWp.seq fun K_5 hK_5 => AWp.reg ?_
  iterate 4 (refine AOps.consU fun K' hK' => ?_; simp (disch := omega) only [go_sem, ↓reduceIte]; refine hK' _ ?_; clear hK' K')
  refine AOps.nil ?_
  simp only [Post.then]
  refine hK_5 _ ?_
  clear hK_5 K_5
  refine AWp.ret ?_
  simp only [Post.then, Post.inBlock, Go.Pv.Fin, Go.Pv.FinG]
  rw [← Option.some.inj h]
  refine ⟨.tuple [.d (.agg [.nilslice, (.int .i64 1), (.int .i64 1), (.int .i64 0)]), .d (.bool true)], ?_, (by first | exact True.intro | rfl), .tuple [.d (.agg [.nilslice, (.int .i64 1), (.int .i64 1), (.int .i64 0)]), .d (.bool true)], ?_, ?_⟩
  ·simp only [go_sem, Tryd.results55, List.length_append, List.length_set, List.length_replicate, ↓reduceIte]
  ·simp only [go_sem, lenc_nil, List.take_length, List.length_append, List.length_set, List.length_replicate, ↓reduceIte]
  ·(first | exact leV_refl _ | (simp only [go_sem, leV, leVL, leD, leDL, lenc_nil, leD_refl, leDL_refl, lstD_le, ↓reduceIte]; done))
 ·rw [hb_4, cond_false] at h
  refine AWp.skip ?_
  simp only [Post.then, Post.inBlock, ↓reduceIte, Nat.reduceEqDiff]
  refine hK_2 _ ?_
  clear hK_2 K_2
  refine AWp.seq fun K_6 hK_6 => AWp.reg ?_
  iterate 5 (refine AOps.consU fun K' hK' => ?_; simp (disch := omega) only [go_sem, ↓reduceIte]; refine hK' _ ?_; clear hK' K')
  refine AOps.nil ?_
  simp only [Post.then]
  refine hK_6 _ ?_
  clear hK_6 K_6
  obtain ⟨o_7, hj_8, h⟩ := bind_some h
  refine AWp.seqI (fun i_47 : (Walk × Bool) => ⟨[(6, .ptr 1002 0 0), (8, .ptr 1003 0 0), (9, .ptr 1004 0 0)], [(1002, ⟨83, 4, [.d (.agg [.nilslice, (.int .i64 0), (.int .i64 0), (.int .i64 0)])]⟩), (1003, ⟨83, 4, [.d (.agg [(lstD 1 (lenc (PD.int .i64) i_47.1.list)), (.int .i64 i_47.1.rate.Num), (.int .i64 i_47.1.rate.Den), (.int .i64 i_47.1.to)])]⟩), (1004, ⟨4, 1, [.d (.bool i_47.2)]⟩)], [], none⟩) (fun i_47 => o_7 = i_47) ?_ ?_
  ·refine AWp.seq fun K_9 hK_9 => AWp.reg ?_
   iterate 1 (refine AOps.consU fun K' hK' => ?_; simp (disch := omega) only [go_sem, ↓reduceIte]; refine hK' _ ?_; clear hK' K')
   refine AOps.nil ?_
   simp only [Post.then]
   refine hK_9 _ ?_
   clear hK_9 K_9
   refine AWp.block ?_
   obtain ⟨x_14, hl_11, h2_12⟩ := bind_some hj_8
   obtain ⟨n_10, hl_11⟩ := iter_some hl_11
   refine AWp.loopI (fun i_45 : Nat × (Int × Walk × Bool) => ⟨[(1, .d (.int .i64 from1)), (3, .ptr 1000 0 0), (5, .ptr 1001 0 0), (6, .ptr 1002 0 0), (8, .ptr 1003 0 0), (9, .ptr 1004 0 0), (10, .d (.int .i64 i_45.2.1))], [(1000, ⟨77, 2, [.d (.agg [(.int .i64 m1.n), (.imm 4 (lenc Offer.pd m1.offers))])]⟩), (1001, ⟨3, 1, [.d (.int .i64 to1)]⟩), (1002, ⟨83, 4, [.d (.agg [.nilslice, (.int .i64 0), (.int .i64 0), (.int .i64 0)])]⟩), (1003, ⟨83, 4, [.d (.agg [(lstD 1 (lenc (PD.int .i64) i_45.2.2.1.list)), (.int .i64 i_45.2.2.1.rate.Num), (.int .i64 i_45.2.2.1.rate.Den), (.int .i64 i_45.2.2.1.to)])]⟩), (1004, ⟨4, 1, [.d (.bool i_45.2.2.2)]⟩)], [], none⟩) (fun i_45 => iterN (m_rate_market_best_l1 m1 from1 to1) i_45.1 i_45.2 = some x_14) (fun i_45 => i_45.1) (n_10, (1, (⟨[], (⟨0, 0⟩ : Ratio), 0⟩ : Walk), false)) hl_11 (Sub.mk ⟨rfl, rfl, rfl, rfl, rfl, rfl, rfl, trivial⟩ ⟨rfl, rfl, rfl, rfl, rfl, trivial⟩ ⟨trivial, rfl, rfl, rfl, rfl, rfl, trivial, trivial⟩ ⟨⟨trivial, trivial⟩, ⟨trivial, trivial⟩, ⟨trivial, trivial⟩, ⟨trivial, trivial⟩, ⟨trivial, trivial⟩, trivial⟩ ⟨rfl, trivial, rfl⟩) ?_
   clear hl_11
   rintro ⟨n_10, length1, c3, c4⟩ hl_11
   try dsimp only at hl_11
   try dsimp only
   cases n_10 with
   | zero => cases hl_11
   | succ n_10 =>
    rw [iterN_succ] at hl_11
    obtain ⟨ob_15, hb_13, hl_11⟩ := bind_some hl_11
    unfold m_rate_market_best_l1 at hb_13
    try dsimp only at hb_13
    refine AWp.seq fun K_16 hK_16 => ?_
    refine AWp.seq fun K_17 hK_17 => AWp.reg ?_
    iterate 4 (refine AOps.consU fun K' hK' => ?_; simp (disch := omega) only [go_sem, ↓reduceIte]; refine hK' _ ?_; clear hK' K')
    refine AOps.nil ?_
    simp only [Post.then]
    refine hK_17 _ ?_
    clear hK_17 K_17
    refine AWp.cond (b := (decide (length1 < m1.n))) (by rfl) (fun hb_18 => ?_) (fun hb_18 => ?_)
    ·rw [hb_18, cond_true] at hb_13
     refine AWp.skip ?_
     simp only [Post.then, Post.inBlock, ↓reduceIte, Nat.reduceEqDiff]
     refine hK_16 _ ?_
     clear hK_16 K_16
     obtain ⟨o_19, hj_20, hb_13⟩ := bind_some hb_13
     refine AWp.seqI (fun i_43 : (Walk × Bool) => ⟨[(1, .d (.int .i64 from1)), (3, .ptr 1000 0 0), (5, .ptr 1001 0 0), (6, .ptr 1002 0 0), (8, .ptr 1003 0 0), (9, .ptr 1004 0 0), (10, .d (.int .i64 length1))], [(1000, ⟨77, 2, [.d (.agg [(.int .i64 m1.n), (.imm 4 (lenc Offer.pd m1.offers))])]⟩), (1001, ⟨3, 1, [.d (.int .i64 to1)]⟩), (1002, ⟨83, 4, [.d (.agg [.nilslice, (.int .i64 0), (.int .i64 0), (.int .i64 0)])]⟩), (1003, ⟨83, 4, [.d (.agg [(lstD 1 (lenc (PD.int .i64) i_43.1.list)), (.int .i64 i_43.1.rate.Num), (.int .i64 i_43.1.rate.Den), (.int .i64 i_43.1.to)])]⟩), (1004, ⟨4, 1, [.d (.bool i_43.2)]⟩)], [], none⟩) (fun i_43 => o_19 = i_43) ?_ ?_
     ·refine AWp.block ?_
      refine AWp.seq fun K_21 hK_21 => AWp.reg ?_
      iterate 3 (refine AOps.consU fun K' hK' => ?_; simp (disch := omega) only [go_sem, ↓reduceIte]; refine hK' _ ?_; clear hK' K')
      obtain ⟨hg_22, hj_20⟩ := guardO_some hj_20
      refine AOps.consU fun K' hK' => ?_; simp (disch := omega) only [go_sem, ↓reduceIte]; refine OpT.call (by rfl) (by rfl) (by kernel_rfl) (walks_fn m1 from1 length1 false) (by exact ⟨rfl, rfl, rfl, rfl, trivial⟩) (by simp only [go_sem, ↓reduceIte]) ?_ (by simp only [go_sem]); simp only [go_sem, ↓reduceIte]; refine hK' _ ?_; clear hK' K'
      refine AOps.nil ?_
      simp only [Post.then]
      refine hK_21 _ ?_
      clear hK_21 K_21
      refine AWp.block ?_
      refine AWp.sub (τ := ⟨[(1, .d (.int .i64 from1)), (3, .ptr 1000 0 0), (5, .ptr 1001 0 0), (6, .ptr 1002 0 0), (8, .ptr 1003 0 0), (9, .ptr 1004 0 0), (10, .d (.int .i64 length1)), (27, .func (.func 93) [.dptr 2 [(.agg [(.int .i64 m1.n), (.imm 4 (lenc Offer.pd m1.offers))])] 0 0, .dptr 1 [.int .i64 length1] 0 0, .dptr 1 [.int .i64 from1] 0 0, .dptr 1 [.bool false] 0 0])], [(1000, ⟨77, 2, [.d (.agg [(.int .i64 m1.n), (.imm 4 (lenc Offer.pd m1.offers))])]⟩), (1001, ⟨3, 1, [.d (.int .i64 to1)]⟩), (1002, ⟨83, 4, [.d (.agg [.nilslice, (.int .i64 0), (.int .i64 0), (.int .i64 0)])]⟩), (1003, ⟨83, 4, [.d (.agg [(lstD 1 (lenc (PD.int .i64) c3.list)), (.int .i64 c3.rate.Num), (.int .i64 c3.rate.Den), (.int .i64 c3.to)])]⟩), (1004, ⟨4, 1, [.d (.bool c4)]⟩)], [], none⟩) (Sub.mk ⟨rfl, rfl, rfl, rfl, rfl, rfl, rfl, rfl, trivial⟩ ⟨rfl, rfl, rfl, rfl, rfl, trivial⟩ ⟨trivial, rfl, rfl, rfl, rfl, rfl, trivial, (by simp only [go_sem, ↓reduceIte]), trivial⟩ ⟨⟨trivial, trivial⟩, ⟨trivial, trivial⟩, ⟨trivial, trivial⟩, ⟨trivial, trivial⟩, ⟨trivial, trivial⟩, trivial⟩ ⟨rfl, trivial, rfl⟩) ?_
      obtain ⟨o_36, hl_37, h2_38⟩ := bind_some hj_20
      refine AWp.rangeL Walk.pd (walksL m1 from1 length1 false) (fun i_41 : (Walk × Bool) => [(1000, ⟨77, 2, [.d (.agg [(.int .i64 m1.n), (.imm 4 (lenc Offer.pd m1.offers))])]⟩), (1001, ⟨3, 1, [.d (.int .i64 to1)]⟩), (1002, ⟨83, 4, [.d (.agg [.nilslice, (.int .i64 0), (.int .i64 0), (.int .i64 0)])]⟩), (1003, ⟨83, 4, [.d (.agg [(lstD 1 (lenc (PD.int .i64) i_41.1.list)), (.int .i64 i_41.1.rate.Num), (.int .i64 i_41.1.rate.Den), (.int .i64 i_41.1.to)])]⟩), (1004, ⟨4, 1, [.d (.bool i_41.2)]⟩)]) 0 (fun i_41 : (Walk × Bool) => [(1000, ⟨77, 2, [.d (.agg [(.int .i64 m1.n), (.imm 4 (lenc Offer.pd m1.offers))])]⟩), (1001, ⟨3, 1, [.d (.int .i64 to1)]⟩), (1002, ⟨83, 4, [.d (.agg [.nilslice, (.int .i64 0), (.int .i64 0), (.int .i64 0)])]⟩), (1003, ⟨83, 4, [.d (.agg [(lstD 1 (lenc (PD.int .i64) i_41.1.list)), (.int .i64 i_41.1.rate.Num), (.int .i64 i_41.1.rate.Den), (.int .i64 i_41.1.to)])]⟩), (1004, ⟨4, 1, [.d (.bool i_41.2)]⟩)]) (m_rate_market_best_r2 to1) (c3, c4) (by rfl) (by simp only [go_sem]) (by kernel_rfl) (walks_seq m1 from1 length1 false hg_22) rfl rfl (by rfl) (by decide) (by simp only [go_sem, clean, cleanL, dl_clean, ↓reduceIte]) (fun _ => by simp only [go_sem, clean, cleanL, dl_clean, ↓reduceIte]) (fun _ => by simp only [go_sem, clean, cleanL, dl_clean, ↓reduceIte]) hl_37 ?_ ?_ ?_
      ·rintro l_26 ⟨c7, c8⟩ x1 q_25 hraw_23
       have hb_24 := hraw_23
       unfold m_rate_market_best_r2 at hb_24
       try dsimp only at hb_24
       try dsimp only
       simp only [eput, ↓reduceIte, Nat.reduceEqDiff]
       refine AWp.reg ?_
       iterate 2 (refine AOps.consU fun K' hK' => ?_; simp (disch := omega) only [go_sem, ↓reduceIte]; refine hK' _ ?_; clear hK' K')
       refine AOps.nil ?_
       simp only [Post.then, Post.inBlock, ↓reduceIte, Nat.reduceEqDiff]
       refine AWp.block ?_
       refine AWp.seq fun K_28 hK_28 => AWp.reg ?_
       iterate 5 (refine AOps.consU fun K' hK' => ?_; simp (disch := omega) only [go_sem, ↓reduceIte]; refine hK' _ ?_; clear hK' K')
       obtain ⟨b1, hc_29, hb_24⟩ := bind_some hb_24
       refine AOps.cut 10 (⟨[(8, .ptr 1003 0 0), (9, .ptr 1004 0 0), (11, .ptr 1005 0 0), (43, .d (.bool b1))], [(1000, ⟨77, 2, [.d (.agg [(.int .i64 m1.n), (.imm 4 (lenc Offer.pd m1.offers))])]⟩), (1001, ⟨3, 1, [.d (.int .i64 to1)]⟩), (1002, ⟨83, 4, [.d (.agg [.nilslice, (.int .i64 0), (.int .i64 0), (.int .i64 0)])]⟩), (1003, ⟨83, 4, [.d (.agg [(lstD 1 (lenc (PD.int .i64) c7.list)), (.int .i64 c7.rate.Num), (.int .i64 c7.rate.Den), (.int .i64 c7.to)])]⟩), (1004, ⟨4, 1, [.d (.bool c8)]⟩), (1005, ⟨83, 4, [.d (.agg [(lstD 1 (lenc (PD.int .i64) x1.list)), (.int .i64 x1.rate.Num), (.int .i64 x1.rate.Den), (.int .i64 x1.to)])]⟩)], [.func (.func 0) (envL [(1, .d (.int .i64 from1)), (3, .ptr 1000 0 0), (5, .ptr 1001 0 0), (6, .ptr 1002 0 0), (8, .ptr 1003 0 0), (9, .ptr 1004 0 0), (10, .d (.int .i64 length1)), (27, .func (.func 93) [.dptr 2 [(.agg [(.int .i64 m1.n), (.imm 4 (lenc Offer.pd m1.offers))])] 0 0, .dptr 1 [.int .i64 length1] 0 0, .dptr 1 [.int .i64 from1] 0 0, .dptr 1 [.bool false] 0 0])])], none⟩) ?_ ?_
       ·simp only [List.take_succ_cons, List.take_zero]
        rcases Bool.eq_false_or_eq_true (decide (x1.to = to1)) with hg_33 | hg_33
        ·rw [hg_33]
         rw [hg_33, cond_true] at hc_29
         iterate 3 (refine AOps.consU fun K' hK' => ?_; simp (disch := omega) only [go_sem, ↓reduceIte]; refine hK' _ ?_; clear hK' K')
         obtain ⟨b2, hc_30, hc_29⟩ := bind_some hc_29
         refine AOps.cut 6 (⟨[(8, .ptr 1003 0 0), (9, .ptr 1004 0 0), (11, .ptr 1005 0 0), (33, .d (.bool true)), (42, .d (.bool b2))], [(1000, ⟨77, 2, [.d (.agg [(.int .i64 m1.n), (.imm 4 (lenc Offer.pd m1.offers))])]⟩), (1001, ⟨3, 1, [.d (.int .i64 to1)]⟩), (1002, ⟨83, 4, [.d (.agg [.nilslice, (.int .i64 0), (.int .i64 0), (.int .i64 0)])]⟩), (1003, ⟨83, 4, [.d (.agg [(lstD 1 (lenc (PD.int .i64) c7.list)), (.int .i64 c7.rate.Num), (.int .i64 c7.rate.Den), (.int .i64 c7.to)])]⟩), (1004, ⟨4, 1, [.d (.bool c8)]⟩), (1005, ⟨83, 4, [.d (.agg [(lstD 1 (lenc (PD.int .i64) x1.list)), (.int .i64 x1.rate.Num), (.int .i64 x1.rate.Den), (.int .i64 x1.to)])]⟩)], [.func (.func 0) (envL [(1, .d (.int .i64 from1)), (3, .ptr 1000 0 0), (5, .ptr 1001 0 0), (6, .ptr 1002 0 0), (8, .ptr 1003 0 0), (9, .ptr 1004 0 0), (10, .d (.int .i64 length1)), (27, .func (.func 93) [.dptr 2 [(.agg [(.int .i64 m1.n), (.imm 4 (lenc Offer.pd m1.offers))])] 0 0, .dptr 1 [.int .i64 length1] 0 0, .dptr 1 [.int .i64 from1] 0 0, .dptr 1 [.bool false] 0 0])])], none⟩) ?_ ?_
         ·simp only [List.take_succ_cons, List.take_zero]
          rcases Bool.eq_false_or_eq_true (!c8) with hg_32 | hg_32
          ·rw [hg_32]
           rw [hg_32, cond_true] at hc_30
           iterate 6 (refine AOps.consU fun K' hK' => ?_; simp (disch := omega) only [go_sem, ↓reduceIte]; refine hK' _ ?_; clear hK' K')
           refine AOps.nil ?_
           have hc_30 := Option.some.inj hc_30
           subst hc_30
           exact (Sub.mk ⟨rfl, rfl, rfl, rfl, rfl, trivial⟩ ⟨rfl, rfl, rfl, rfl, rfl, rfl, trivial⟩ ⟨rfl, rfl, rfl, trivial, trivial, trivial⟩ ⟨⟨trivial, trivial⟩, ⟨trivial, trivial⟩, ⟨trivial, trivial⟩, ⟨trivial, trivial⟩, ⟨trivial, trivial⟩, ⟨trivial, trivial⟩, trivial⟩ ⟨rfl, (by simp only [go_sem, envL, envLGo, ↓reduceIte]), rfl⟩)
          ·rw [hg_32]
           rw [hg_32, cond_false] at hc_30
           iterate 4 (refine AOps.consU fun K' hK' => ?_; simp (disch := omega) only [go_sem, ↓reduceIte]; refine hK' _ ?_; clear hK' K')
           obtain ⟨r1, hx_31, hc_30⟩ := bind_some hc_30
           refine AOps.consU fun K' hK' => ?_; simp (disch := omega) only [go_sem, ↓reduceIte]; refine OpT.call (by rfl) (by rfl) (by kernel_rfl) (m_rate_above_ok x1.rate c7.rate _ hx_31) (by exact ⟨rfl, rfl, trivial⟩) (by simp only [go_sem, ↓reduceIte]) ?_ (by simp only [go_sem]); simp only [go_sem, ↓reduceIte]; refine hK' _ ?_; clear hK' K'
           iterate 1 (refine AOps.consU fun K' hK' => ?_; simp (disch := omega) only [go_sem, ↓reduceIte]; refine hK' _ ?_; clear hK' K')
           refine AOps.nil ?_
           have hc_30 := Option.some.inj hc_30
           subst hc_30
           exact (Sub.mk ⟨rfl, rfl, rfl, rfl, rfl, trivial⟩ ⟨rfl, rfl, rfl, rfl, rfl, rfl, trivial⟩ ⟨rfl, rfl, rfl, trivial, trivial, trivial⟩ ⟨⟨trivial, trivial⟩, ⟨trivial, trivial⟩, ⟨trivial, trivial⟩, ⟨trivial, trivial⟩, ⟨trivial, trivial⟩, ⟨trivial, trivial⟩, trivial⟩ ⟨rfl, (by simp only [go_sem, envL, envLGo, ↓reduceIte]), rfl⟩)
         simp only [List.drop_succ_cons, List.drop_zero]
         iterate 1 (refine AOps.consU fun K' hK' => ?_; simp (disch := omega) only [go_sem, ↓reduceIte]; refine hK' _ ?_; clear hK' K')
         refine AOps.nil ?_
         have hc_29 := Option.some.inj hc_29
         subst hc_29
         exact (Sub.mk ⟨rfl, rfl, rfl, rfl, trivial⟩ ⟨rfl, rfl, rfl, rfl, rfl, rfl, trivial⟩ ⟨rfl, rfl, rfl, trivial, trivial⟩ ⟨⟨trivial, trivial⟩, ⟨trivial, trivial⟩, ⟨trivial, trivial⟩, ⟨trivial, trivial⟩, ⟨trivial, trivial⟩, ⟨trivial, trivial⟩, trivial⟩ ⟨rfl, (by simp only [go_sem, envL, envLGo, ↓reduceIte]), rfl⟩)
        ·rw [hg_33]
         rw [hg_33, cond_false] at hc_29
         iterate 10 (refine AOps.consU fun K' hK' => ?_; simp (disch := omega) only [go_sem, ↓reduceIte]; refine hK' _ ?_; clear hK' K')
         refine AOps.nil ?_
         have hc_29 := Option.some.inj hc_29
         subst hc_29
         exact (Sub.mk ⟨rfl, rfl, rfl, rfl, trivial⟩ ⟨rfl, rfl, rfl, rfl, rfl, rfl, trivial⟩ ⟨rfl, rfl, rfl, trivial, trivial⟩ ⟨⟨trivial, trivial⟩, ⟨trivial, trivial⟩, ⟨trivial, trivial⟩, ⟨trivial, trivial⟩, ⟨trivial, trivial⟩, ⟨trivial, trivial⟩, trivial⟩ ⟨rfl, (by simp only [go_sem, envL, envLGo, ↓reduceIte]), rfl⟩)
       simp only [List.drop_succ_cons, List.drop_zero]
       refine AOps.nil ?_
       simp only [Post.then]
       refine hK_28 _ ?_
       clear hK_28 K_28
       refine AWp.cond (b := b1) (by rfl) (fun hb_34 => ?_) (fun hb_34 => ?_)
       ·rw [hb_34, cond_true] at hb_24
        refine AWp.reg ?_
        iterate 3 (refine AOps.consU fun K' hK' => ?_; simp (disch := omega) only [go_sem, ↓reduceIte]; refine hK' _ ?_; clear hK' K')
        refine AOps.nil ?_
        simp only [Post.then, Post.inBlock, ↓reduceIte, Nat.reduceEqDiff]
        show ∃ s, _ = some (Sum.inl s) ∧ _
        exact ⟨(x1, true), hraw_23.trans hb_24.symm, (Sub.mk trivial ⟨rfl, rfl, rfl, rfl, rfl, trivial⟩ trivial ⟨⟨trivial, trivial⟩, ⟨trivial, trivial⟩, ⟨trivial, trivial⟩, ⟨trivial, trivial⟩, ⟨trivial, trivial⟩, trivial⟩ ⟨rfl, (by simp only [go_sem, envL, envLGo, ↓reduceIte]), rfl⟩)⟩
       ·rw [hb_34, cond_false] at hb_24
        refine AWp.skip ?_
        simp only [Post.then, Post.inBlock, ↓reduceIte, Nat.reduceEqDiff]
        show ∃ s, _ = some (Sum.inl s) ∧ _
        exact ⟨(c7, c8), hraw_23.trans hb_24.symm, (Sub.mk trivial ⟨rfl, rfl, rfl, rfl, rfl, trivial⟩ trivial ⟨⟨trivial, trivial⟩, ⟨trivial, trivial⟩, ⟨trivial, trivial⟩, ⟨trivial, trivial⟩, ⟨trivial, trivial⟩, trivial⟩ ⟨rfl, (by simp only [go_sem, envL, envLGo, ↓reduceIte]), rfl⟩)⟩
      ·rintro ⟨c7, c8⟩ hx_39
       rw [hx_39] at h2_38
       try dsimp only at h2_38
       try dsimp only
       simp only [Post.then, Post.inBlock, ↓reduceIte, Nat.reduceEqDiff]
       exact ⟨(c7, c8), (Option.some.inj h2_38).symm, (Sub.mk ⟨rfl, rfl, rfl, rfl, rfl, rfl, rfl, trivial⟩ ⟨rfl, rfl, rfl, rfl, rfl, trivial⟩ ⟨trivial, rfl, rfl, rfl, rfl, rfl, trivial, trivial⟩ ⟨⟨trivial, trivial⟩, ⟨trivial, trivial⟩, ⟨trivial, trivial⟩, ⟨trivial, trivial⟩, ⟨trivial, trivial⟩, trivial⟩ ⟨rfl, trivial, rfl⟩)⟩
      ·rintro ⟨c71, c81⟩ hy_40
       rw [hy_40] at h2_38
       try dsimp only at h2_38
       try dsimp only
       simp only [Post.then, Post.inBlock, ↓reduceIte, Nat.reduceEqDiff]
       cases h2_38
     ·rintro ⟨c5, c6⟩ hx_44
      rw [hx_44] at hb_13
      try dsimp only at hb_13
      try dsimp only
      refine AWp.reg ?_
      iterate 3 (refine AOps.consU fun K' hK' => ?_; simp (disch := omega) only [go_sem, ↓reduceIte]; refine hK' _ ?_; clear hK' K')
      refine AOps.nil ?_
      simp only [Post.then, Post.inBlock, ↓reduceIte, Nat.reduceEqDiff]
      rw [← Option.some.inj hb_13] at hl_11
      try dsimp only at hl_11
      exact ⟨(n_10, ((IntKind.i64.wrap (length1 + 1)), c5, c6)), hl_11, Nat.lt_succ_self n_10, (Sub.mk ⟨rfl, rfl, rfl, rfl, rfl, rfl, rfl, trivial⟩ ⟨rfl, rfl, rfl, rfl, rfl, trivial⟩ ⟨trivial, rfl, rfl, rfl, rfl, rfl, trivial, trivial⟩ ⟨⟨trivial, trivial⟩, ⟨trivial, trivial⟩, ⟨trivial, trivial⟩, ⟨trivial, trivial⟩, ⟨trivial, trivial⟩, trivial⟩ ⟨rfl, trivial, rfl⟩)⟩
    ·rw [hb_18, cond_false] at hb_13
     refine AWp.exit ?_
     simp only [Post.then, Post.inBlock, ↓reduceIte, Nat.reduceEqDiff]
     rw [← Option.some.inj hb_13] at hl_11
     try dsimp only at hl_11
     rw [← Option.some.inj hl_11] at h2_12
     try dsimp only at h2_12
     exact ⟨(c3, c4), (Option.some.inj h2_12).symm, (Sub.mk ⟨rfl, rfl, rfl, trivial⟩ ⟨rfl, rfl, rfl, trivial⟩ ⟨rfl, rfl, rfl, trivial⟩ ⟨⟨trivial, trivial⟩, ⟨trivial, trivial⟩, ⟨trivial, trivial⟩, trivial⟩ ⟨rfl, trivial, rfl⟩)⟩
  ·rintro ⟨c1, c2⟩ hx_48
   rw [hx_48] at h
   try dsimp only at h
   try dsimp only
   refine AWp.seq fun K_46 hK_46 => AWp.draw mo [] (by trivial) ?_
   iterate 4 (refine DOps.consU fun K' hK' => ?_; simp (disch := omega) only [go_sem, ↓reduceIte]; refine hK' _ _ ?_; clear hK' K'; simp only [List.nil_append, List.cons_append])
   refine DOps.nil (by kernel_rfl) ?_
   simp only [Post.then]
   refine hK_46 _ ?_
   clear hK_46 K_46
   refine AWp.ret ?_
   simp only [Post.then, Post.inBlock, Go.Pv.Fin, Go.Pv.FinG]
   rw [← Option.some.inj h]
   refine ⟨.tuple [.d (.agg [(lstD 1 (lenc (PD.int .i64) c1.list)), (.int .i64 c1.rate.Num), (.int .i64 c1.rate.Den), (.int .i64 c1.to)]), .d (.bool c2)], ?_, (by first | exact True.intro | rfl), .tuple [.d (.agg [(lstD 1 (lenc (PD.int .i64) c1.list)), (.int .i64 c1.rate.Num), (.int .i64 c1.rate.Den), (.int .i64 c1.to)]), .d (.bool c2)], ?_, ?_⟩
   ·simp only [go_sem, Tryd.results55, List.length_append, List.length_set, List.length_replicate, ↓reduceIte]
   ·simp only [go_sem, lenc_nil, List.take_length, List.length_append, List.length_set, List.length_replicate, ↓reduceIte]
   ·(first | exact leV_refl _ | (simp only [go_sem, leV, leVL, leD, leDL, lenc_nil, leD_refl, leDL_refl, lstD_le, ↓reduceIte]; done))
end Go.Pv.Tryd

namespace Go.Pv.Tryd
open Go.Proofs Go.Pv
theorem m_rate_Prices_ok (n1 : Int) (offers1 : (List Offer)) (r : ((List Ratio) × Int)) (h : m_rate_Prices n1 offers1 = some r) : PureFn Tryd.prog G 23 [.d (.int .i64 n1), .d (.imm 4 (lenc Offer.pd offers1))] (.tuple [.d (.imm 2 (lenc Ratio.pd r.1)), .d (.int .i64 r.2)]) := by
 unfold m_rate_Prices at h
 refine PureFn.intro2 Tryd.func23 (by rfl) (by rw [Tryd.ntmps23]; simp) ?_
 rw [Tryd.ntmps23]
 simp only [argEnv, reduceCtorEq, ↓reduceIte, Nat.reduceAdd, Nat.reduceMul, Nat.reduceLT, Nat.reduceLeDiff, Nat.reduceEqDiff, Nat.reduceBEq, Int.reduceToNat]
 refine AWp.seq fun K_1 hK_1 => AWp.reg ?_
 iterate 2 (refine AOps.consU fun K' hK' => ?_; simp (disch := omega) only [go_sem, ↓reduceIte]; refine hK' _ ?_; clear hK' K')
 refine AOps.nil ?_
 simp only [Post.then]
 refine hK_1 _ ?_
 clear hK_1 K_1
 refine AWp.seq fun K_2 hK_2 => AWp.reg ?_
 iterate 2 (refine AOps.consU fun K' hK' => ?_; simp (disch := omega) only [go_sem, ↓reduceIte]; refine hK' _ ?_; clear hK' K')
 obtain ⟨r1, hx_3, h⟩ := bind_some h
 refine AOps.consU fun K' hK' => ?_; simp (disch := omega) only [go_sem, ↓reduceIte]; refine OpT.call (by rfl) (by rfl) (by kernel_rfl) (m_rate_of_ok n1 offers1 _ hx_3) (by exact ⟨rfl, rfl, trivial⟩) (by simp only [go_sem, ↓reduceIte]) ?_ (by simp only [go_sem]); simp only [go_sem, ↓reduceIte]; refine hK' _ ?_; clear hK' K'
 iterate 6 (refine AOps.consU fun K' hK' => ?_; simp (disch := omega) only [go_sem, ↓reduceIte]; refine hK' _ ?_; clear hK' K')
 refine AOps.nil ?_
 simp only [Post.then]
 refine hK_2 _ ?_
 clear hK_2 K_2
 refine AWp.seq fun K_4 hK_4 => ?_
 refine AWp.seq fun K_5 hK_5 => AWp.reg ?_
 iterate 2 (refine AOps.consU fun K' hK' => ?_; simp (disch := omega) only [go_sem, ↓reduceIte]; refine hK' _ ?_; clear hK' K')
 refine AOps.nil ?_
 simp only [Post.then]
 refine hK_5 _ ?_
 clear hK_5 K_5
 refine AWp.cond (b := (decide (¬r1.2 = 0))) (by rfl) (fun hb_6 => ?_) (fun hb_6 => ?_)
 ·rw [hb_6, cond_true] at h
  refine AWp.seq fun K_7 hK_7 => AWp.reg ?_
  iterate 3 (refine AOps.consU fun K' hK' => ?_; simp (disch := omega) only [go_sem, ↓reduceIte]; refine hK' _ ?_; clear hK' K')
  refine AOps.nil ?_
  simp only [Post.then]
  refine hK_7 _ ?_
  clear hK_7 K_7
  refine AWp.ret ?_
  simp only [Post.then, Post.inBlock, Go.Pv.Fin, Go.Pv.FinG]
  rw [← Option.some.inj h]
  refine ⟨.tuple [.d .nilslice, .d (.int .i64 r1.2)], ?_, (by first | exact True.intro | rfl), .tuple [.d .nilslice, .d (.int .i64 r1.2)], ?_, ?_⟩
  ·simp only [go_sem, Tryd.results23, List.length_append, List.length_set, List.length_replicate, ↓reduceIte]
  ·simp only [go_sem, lenc_nil, List.take_length, List.length_append, List.length_set, List.length_replicate, ↓reduceIte]
  ·(first | exact leV_refl _ | (simp only [go_sem, leV, leVL, leD, leDL, lenc_nil, leD_refl, leDL_refl, lstD_le, ↓reduceIte]; done))
 ·rw [hb_6, cond_false] at h
  refine AWp.skip ?_
  simp only [Post.then, Post.inBlock, ↓reduceIte, Nat.reduceEqDiff]
  refine hK_4 _ ?_
  clear hK_4 K_4
  refine AWp.seq fun K_8 hK_8 => ?_
  refine AWp.seq fun K_9 hK_9 => AWp.reg ?_
  iterate 1 (refine AOps.consU fun K' hK' => ?_; simp (disch := omega) only [go_sem, ↓reduceIte]; refine hK' _ ?_; clear hK' K')
  obtain ⟨r2, hx_10, h⟩ := bind_some h
  refine AOps.consU fun K' hK' => ?_; simp (disch := omega) only [go_sem, ↓reduceIte]; refine OpT.call (by rfl) (by rfl) (by kernel_rfl) (m_rate_market_round_ok r1.1 _ hx_10) (by exact ⟨rfl, trivial⟩) (by simp only [go_sem, ↓reduceIte]) ?_ (by simp only [go_sem]); simp only [go_sem, ↓reduceIte]; refine hK' _ ?_; clear hK' K'
  iterate 1 (refine AOps.consU fun K' hK' => ?_; simp (disch := omega) only [go_sem, ↓reduceIte]; refine hK' _ ?_; clear hK' K')
  refine AOps.nil ?_
  simp only [Post.then]
  refine hK_9 _ ?_
  clear hK_9 K_9
  refine AWp.cond (b := (!(r2).isEmpty)) (by rfl) (fun hb_11 => ?_) (fun hb_11 => ?_)
  ·rw [hb_11, cond_true] at h
   refine AWp.seq fun K_12 hK_12 => AWp.reg ?_
   iterate 2 (refine AOps.consU fun K' hK' => ?_; simp (disch := omega) only [go_sem, ↓reduceIte]; refine hK' _ ?_; clear hK' K')
   refine AOps.nil ?_
   simp only [Post.then]
   refine hK_12 _ ?_
   clear hK_12 K_12
   refine AWp.ret ?_
   simp only [Post.then, Post.inBlock, Go.Pv.Fin, Go.Pv.FinG]
   rw [← Option.some.inj h]
   refine ⟨.tuple [.d .nilslice, .d (.int .i64 10)], ?_, (by first | exact True.intro | rfl), .tuple [.d .nilslice, .d (.int .i64 10)], ?_, ?_⟩
   ·simp only [go_sem, Tryd.results23, List.length_append, List.length_set, List.length_replicate, ↓reduceIte]
   ·simp only [go_sem, lenc_nil, List.take_length, List.length_append, List.length_set, List.length_replicate, ↓reduceIte]
   ·(first | exact leV_refl _ | (simp only [go_sem, leV, leVL, leD, leDL, lenc_nil, leD_refl, leDL_refl, lstD_le, ↓reduceIte]; done))
  ·rw [hb_11, cond_false] at h
   refine AWp.skip ?_
   simp only [Post.then, Post.inBlock, ↓reduceIte, Nat.reduceEqDiff]
   refine hK_8 _ ?_
   clear hK_8 K_8
   refine AWp.seq fun K_13 hK_13 => AWp.reg ?_
   iterate 1 (refine AOps.consU fun K' hK' => ?_; simp (disch := omega) only [go_sem, ↓reduceIte]; refine hK' _ ?_; clear hK' K')
   refine AOps.nil ?_
   simp only [Post.then]
   refine hK_13 _ ?_
   clear hK_13 K_13
   refine AWp.sub (Sub.void 8 26 2 1001 (by rfl) (by rfl) (by decide) (by decide)) ?_
   simp only [eput, hput, reduceCtorEq, ↓reduceIte, Nat.reduceAdd, Nat.reduceMul, Nat.reduceLT, Nat.reduceLeDiff, Nat.reduceEqDiff, Nat.reduceBEq, Int.reduceToNat]
   obtain ⟨o_14, hj_15, h⟩ := bind_some h
   refine AWp.seqI (fun i_66 : (List Ratio) => ⟨[(8, .slc 1001 0 i_66.length)], [(1001, ⟨26, 2, dl (lenc Ratio.pd i_66)⟩)], [], none⟩) (fun i_66 => o_14 = i_66) ?_ ?_
   ·refine AWp.seq fun K_16 hK_16 => AWp.reg ?_
    iterate 2 (refine AOps.consU fun K' hK' => ?_; simp (disch := omega) only [go_sem, ↓reduceIte]; refine hK' _ ?_; clear hK' K')
    refine AOps.nil ?_
    simp only [Post.then]
    refine hK_16 _ ?_
    clear hK_16 K_16
    refine AWp.block ?_
    obtain ⟨x_21, hl_18, h2_19⟩ := bind_some hj_15
    obtain ⟨n_17, hl_18⟩ := iter_some hl_18
    refine AWp.loopI (fun i_64 : Nat × (Int × (List Ratio)) => ⟨[(0, .d (.int .i64 n1)), (6, .ptr 1000 0 0), (8, .slc 1001 0 i_64.2.2.length), (26, .d (.int .i64 n1)), (27, .d (.int .i64 i_64.2.1))], [(1000, ⟨77, 2, [.d (.agg [(.int .i64 r1.1.n), (.imm 4 (lenc Offer.pd r1.1.offers))])]⟩), (1001, ⟨26, 2, dl (lenc Ratio.pd i_64.2.2)⟩)], [], none⟩) (fun i_64 => iterN (m_rate_Prices_l1 n1 r1) i_64.1 i_64.2 = some x_21) (fun i_64 => i_64.1) (n_17, (0, [])) hl_18 (Sub.mk ⟨rfl, rfl, slcl (by simp only [List.length_append, List.length_set, List.length_replicate, List.length_cons, List.length_nil, Nat.zero_add]), rfl, rfl, trivial⟩ ⟨rfl, rfl, trivial⟩ ⟨trivial, rfl, rfl, trivial, trivial, trivial⟩ ⟨⟨trivial, trivial⟩, row_refs _ _, trivial⟩ ⟨rfl, trivial, rfl⟩) ?_
    clear hl_18
    rintro ⟨n_17, v1, L2⟩ hl_18
    try dsimp only at hl_18
    try dsimp only
    cases n_17 with
    | zero => cases hl_18
    | succ n_17 =>
     rw [iterN_succ] at hl_18
     obtain ⟨ob_22, hb_20, hl_18⟩ := bind_some hl_18
     unfold m_rate_Prices_l1 at hb_20
     try dsimp only at hb_20
     refine AWp.seq fun K_23 hK_23 => AWp.reg ?_
     iterate 1 (refine AOps.consU fun K' hK' => ?_; simp (disch := omega) only [go_sem, ↓reduceIte]; refine hK' _ ?_; clear hK' K')
     refine AOps.nil ?_
     simp only [Post.then]
     refine hK_23 _ ?_
     clear hK_23 K_23
     refine AWp.seq fun K_24 hK_24 => ?_
     refine AWp.cond (b := (decide (v1 < n1))) (by rfl) (fun hb_25 => ?_) (fun hb_25 => ?_)
     ·rw [hb_25, cond_true] at hb_20
      refine AWp.skip ?_
      simp only [Post.then, Post.inBlock, ↓reduceIte, Nat.reduceEqDiff]
      refine hK_24 _ ?_
      clear hK_24 K_24
      obtain ⟨o_26, hj_27, hb_20⟩ := bind_some hb_20
      refine AWp.seqI (fun i_62 : (List Ratio) => ⟨[(0, .d (.int .i64 n1)), (6, .ptr 1000 0 0), (8, .slc 1001 0 i_62.length), (26, .d (.int .i64 n1)), (27, .d (.int .i64 v1))], [(1000, ⟨77, 2, [.d (.agg [(.int .i64 r1.1.n), (.imm 4 (lenc Offer.pd r1.1.offers))])]⟩), (1001, ⟨26, 2, dl (lenc Ratio.pd i_62)⟩)], [], none⟩) (fun i_62 => o_26 = i_62) ?_ ?_
      ·refine AWp.block ?_
       refine AWp.seq fun K_28 hK_28 => AWp.reg ?_
       iterate 2 (refine AOps.consU fun K' hK' => ?_; simp (disch := omega) only [go_sem, ↓reduceIte]; refine hK' _ ?_; clear hK' K')
       refine AOps.nil ?_
       simp only [Post.then]
       refine hK_28 _ ?_
       clear hK_28 K_28
       refine AWp.seq fun K_29 hK_29 => AWp.reg ?_
       iterate 3 (refine AOps.consU fun K' hK' => ?_; simp (disch := omega) only [go_sem, ↓reduceIte]; refine hK' _ ?_; clear hK' K')
       refine AOps.nil ?_
       simp only [Post.then]
       refine hK_29 _ ?_
       clear hK_29 K_29
       obtain ⟨o_30, hj_31, hj_27⟩ := bind_some hj_27
       refine AWp.seqI (fun i_59 : Ratio => ⟨[(0, .d (.int .i64 n1)), (6, .ptr 1000 0 0), (8, .slc 1001 0 L2.length), (10, .ptr 1002 0 0), (26, .d (.int .i64 n1)), (27, .d (.int .i64 v1))], [(1000, ⟨77, 2, [.d (.agg [(.int .i64 r1.1.n), (.imm 4 (lenc Offer.pd r1.1.offers))])]⟩), (1001, ⟨26, 2, dl (lenc Ratio.pd L2)⟩), (1002, ⟨26, 2, [.d (.agg [(.int .i64 i_59.Num), (.int .i64 i_59.Den)])]⟩)], [], none⟩) (fun i_59 => o_30 = i_59) ?_ ?_
       ·refine AWp.seq fun K_32 hK_32 => AWp.reg ?_
        iterate 2 (refine AOps.consU fun K' hK' => ?_; simp (disch := omega) only [go_sem, ↓reduceIte]; refine hK' _ ?_; clear hK' K')
        refine AOps.nil ?_
        simp only [Post.then]
        refine hK_32 _ ?_
        clear hK_32 K_32
        refine AWp.block ?_
        obtain ⟨x_37, hl_34, h2_35⟩ := bind_some hj_31
        obtain ⟨n_33, hl_34⟩ := iter_some hl_34
        refine AWp.loopI (fun i_56 : Nat × (Int × Ratio) => ⟨[(0, .d (.int .i64 n1)), (6, .ptr 1000 0 0), (8, .slc 1001 0 L2.length), (9, .d (.int .i64 v1)), (10, .ptr 1002 0 0), (26, .d (.int .i64 n1)), (27, .d (.int .i64 v1)), (31, .d (.int .i64 n1)), (32, .d (.int .i64 i_56.2.1))], [(1000, ⟨77, 2, [.d (.agg [(.int .i64 r1.1.n), (.imm 4 (lenc Offer.pd r1.1.offers))])]⟩), (1001, ⟨26, 2, dl (lenc Ratio.pd L2)⟩), (1002, ⟨26, 2, [.d (.agg [(.int .i64 i_56.2.2.Num), (.int .i64 i_56.2.2.Den)])]⟩)], [], none⟩) (fun i_56 => iterN (m_rate_Prices_l2 n1 r1 v1) i_56.1 i_56.2 = some x_37) (fun i_56 => i_56.1) (n_33, (0, (⟨1, 1⟩ : Ratio))) hl_34 (Sub.mk ⟨rfl, rfl, rfl, rfl, rfl, rfl, rfl, rfl, rfl, trivial⟩ ⟨rfl, rfl, rfl, trivial⟩ ⟨trivial, rfl, rfl, trivial, rfl, trivial, trivial, trivial, trivial, trivial⟩ ⟨⟨trivial, trivial⟩, row_refs _ _, ⟨trivial, trivial⟩, trivial⟩ ⟨rfl, trivial, rfl⟩) ?_
        clear hl_34
        rintro ⟨n_33, v2, c2⟩ hl_34
        try dsimp only at hl_34
        try dsimp only
        cases n_33 with
        | zero => cases hl_34
        | succ n_33 =>
         rw [iterN_succ] at hl_34
         obtain ⟨ob_38, hb_36, hl_34⟩ := bind_some hl_34
         unfold m_rate_Prices_l2 at hb_36
         try dsimp only at hb_36
         refine AWp.seq fun K_39 hK_39 => AWp.reg ?_
         iterate 1 (refine AOps.consU fun K' hK' => ?_; simp (disch := omega) only [go_sem, ↓reduceIte]; refine hK' _ ?_; clear hK' K')
         refine AOps.nil ?_
         simp only [Post.then]
         refine hK_39 _ ?_
         clear hK_39 K_39
         refine AWp.seq fun K_40 hK_40 => ?_
         refine AWp.cond (b := (decide (v2 < n1))) (by rfl) (fun hb_41 => ?_) (fun hb_41 => ?_)
         ·rw [hb_41, cond_true] at hb_36
          refine AWp.skip ?_
          simp only [Post.then, Post.inBlock, ↓reduceIte, Nat.reduceEqDiff]
          refine hK_40 _ ?_
          clear hK_40 K_40
          obtain ⟨o_42, hj_43, hb_36⟩ := bind_some hb_36
          refine AWp.seqI (fun i_54 : Ratio => ⟨[(0, .d (.int .i64 n1)), (6, .ptr 1000 0 0), (8, .slc 1001 0 L2.length), (9, .d (.int .i64 v1)), (10, .ptr 1002 0 0), (26, .d (.int .i64 n1)), (27, .d (.int .i64 v1)), (31, .d (.int .i64 n1)), (32, .d (.int .i64 v2))], [(1000, ⟨77, 2, [.d (.agg [(.int .i64 r1.1.n), (.imm 4 (lenc Offer.pd r1.1.offers))])]⟩), (1001, ⟨26, 2, dl (lenc Ratio.pd L2)⟩), (1002, ⟨26, 2, [.d (.agg [(.int .i64 i_54.Num), (.int .i64 i_54.Den)])]⟩)], [], none⟩) (fun i_54 => o_42 = i_54) ?_ ?_
          ·refine AWp.block ?_
           refine AWp.seq fun K_44 hK_44 => AWp.reg ?_
           iterate 2 (refine AOps.consU fun K' hK' => ?_; simp (disch := omega) only [go_sem, ↓reduceIte]; refine hK' _ ?_; clear hK' K')
           refine AOps.nil ?_
           simp only [Post.then]
           refine hK_44 _ ?_
           clear hK_44 K_44
           refine AWp.seq fun K_45 hK_45 => AWp.reg ?_
           iterate 3 (refine AOps.consU fun K' hK' => ?_; simp (disch := omega) only [go_sem, ↓reduceIte]; refine hK' _ ?_; clear hK' K')
           obtain ⟨r3, hx_46, hj_43⟩ := bind_some hj_43
           refine AOps.consU fun K' hK' => ?_; simp (disch := omega) only [go_sem, ↓reduceIte]; refine OpT.call (by rfl) (by rfl) (by kernel_rfl) (m_rate_market_best_ok r1.1 v1 v2 _ hx_46) (by exact ⟨rfl, rfl, rfl, trivial⟩) (by simp only [go_sem, ↓reduceIte]) ?_ (by simp only [go_sem]); simp only [go_sem, ↓reduceIte]; refine hK' _ ?_; clear hK' K'
           iterate 6 (refine AOps.consU fun K' hK' => ?_; simp (disch := omega) only [go_sem, ↓reduceIte]; refine hK' _ ?_; clear hK' K')
           refine AOps.nil ?_
           simp only [Post.then]
           refine hK_45 _ ?_
           clear hK_45 K_45
           refine AWp.seq fun K_47 hK_47 => AWp.reg ?_
           iterate 2 (refine AOps.consU fun K' hK' => ?_; simp (disch := omega) only [go_sem, ↓reduceIte]; refine hK' _ ?_; clear hK' K')
           obtain ⟨b1, hc_48, hj_43⟩ := bind_some hj_43
           refine AOps.cut 5 (⟨[(0, .d (.int .i64 n1)), (6, .ptr 1000 0 0), (8, .slc 1001 0 L2.length), (9, .d (.int .i64 v1)), (10, .ptr 1002 0 0), (12, .ptr 1003 0 0), (26, .d (.int .i64 n1)), (27, .d (.int .i64 v1)), (31, .d (.int .i64 n1)), (32, .d (.int .i64 v2)), (48, .d (.bool b1))], [(1000, ⟨77, 2, [.d (.agg [(.int .i64 r1.1.n), (.imm 4 (lenc Offer.pd r1.1.offers))])]⟩), (1001, ⟨26, 2, dl (lenc Ratio.pd L2)⟩), (1002, ⟨26, 2, [.d (.agg [(.int .i64 c2.Num), (.int .i64 c2.Den)])]⟩), (1003, ⟨83, 4, [.d (.agg [(lstD 1 (lenc (PD.int .i64) r3.1.list)), (.int .i64 r3.1.rate.Num), (.int .i64 r3.1.rate.Den), (.int .i64 r3.1.to)])]⟩)], [], none⟩) ?_ ?_
           ·simp only [List.take_succ_cons, List.take_zero]
            rcases Bool.eq_false_or_eq_true r3.2 with hg_50 | hg_50
            ·rw [hg_50]
             rw [hg_50, cond_true] at hc_48
             iterate 3 (refine AOps.consU fun K' hK' => ?_; simp (disch := omega) only [go_sem, ↓reduceIte]; refine hK' _ ?_; clear hK' K')
             obtain ⟨r4, hx_49, hc_48⟩ := bind_some hc_48
             refine AOps.consU fun K' hK' => ?_; simp (disch := omega) only [go_sem, ↓reduceIte]; refine OpT.call (by rfl) (by rfl) (by kernel_rfl) (m_rate_above_ok r3.1.rate c2 _ hx_49) (by exact ⟨rfl, rfl, trivial⟩) (by simp only [go_sem, ↓reduceIte]) ?_ (by simp only [go_sem]); simp only [go_sem, ↓reduceIte]; refine hK' _ ?_; clear hK' K'
             iterate 1 (refine AOps.consU fun K' hK' => ?_; simp (disch := omega) only [go_sem, ↓reduceIte]; refine hK' _ ?_; clear hK' K')
             refine AOps.nil ?_
             have hc_48 := Option.some.inj hc_48
             subst hc_48
             exact (Sub.mk ⟨rfl, rfl, rfl, rfl, rfl, rfl, rfl, rfl, rfl, rfl, rfl, trivial⟩ ⟨rfl, rfl, rfl, rfl, trivial⟩ ⟨trivial, rfl, rfl, trivial, rfl, rfl, trivial, trivial, trivial, trivial, trivial, trivial⟩ ⟨⟨trivial, trivial⟩, row_refs _ _, ⟨trivial, trivial⟩, ⟨trivial, trivial⟩, trivial⟩ ⟨rfl, trivial, rfl⟩)
            ·rw [hg_50]
             rw [hg_50, cond_false] at hc_48
             iterate 5 (refine AOps.consU fun K' hK' => ?_; simp (disch := omega) only [go_sem, ↓reduceIte]; refine hK' _ ?_; clear hK' K')
             refine AOps.nil ?_
             have hc_48 := Option.some.inj hc_48
             subst hc_48
             exact (Sub.mk ⟨rfl, rfl, rfl, rfl, rfl, rfl, rfl, rfl, rfl, rfl, rfl, trivial⟩ ⟨rfl, rfl, rfl, rfl, trivial⟩ ⟨trivial, rfl, rfl, trivial, rfl, rfl, trivial, trivial, trivial, trivial, trivial, trivial⟩ ⟨⟨trivial, trivial⟩, row_refs _ _, ⟨trivial, trivial⟩, ⟨trivial, trivial⟩, trivial⟩ ⟨rfl, trivial, rfl⟩)
           simp only [List.drop_succ_cons, List.drop_zero]
           refine AOps.nil ?_
           simp only [Post.then]
           refine hK_47 _ ?_
           clear hK_47 K_47
           refine AWp.cond (b := b1) (by rfl) (fun hb_51 => ?_) (fun hb_51 => ?_)
           ·rw [hb_51, cond_true] at hj_43
            refine AWp.reg ?_
            iterate 3 (refine AOps.consU fun K' hK' => ?_; simp (disch := omega) only [go_sem, ↓reduceIte]; refine hK' _ ?_; clear hK' K')
            refine AOps.nil ?_
            simp only [Post.then, Post.inBlock, ↓reduceIte, Nat.reduceEqDiff]
            exact ⟨r3.1.rate, (Option.some.inj hj_43).symm, (Sub.mk ⟨rfl, rfl, rfl, rfl, rfl, rfl, rfl, rfl, rfl, trivial⟩ ⟨rfl, rfl, rfl, trivial⟩ ⟨trivial, rfl, rfl, trivial, rfl, trivial, trivial, trivial, trivial, trivial⟩ ⟨⟨trivial, trivial⟩, row_refs _ _, ⟨trivial, trivial⟩, trivial⟩ ⟨rfl, trivial, rfl⟩)⟩
           ·rw [hb_51, cond_false] at hj_43
            refine AWp.skip ?_
            simp only [Post.then, Post.inBlock, ↓reduceIte, Nat.reduceEqDiff]
            exact ⟨c2, (Option.some.inj hj_43).symm, (Sub.mk ⟨rfl, rfl, rfl, rfl, rfl, rfl, rfl, rfl, rfl, trivial⟩ ⟨rfl, rfl, rfl, trivial⟩ ⟨trivial, rfl, rfl, trivial, rfl, trivial, trivial, trivial, trivial, trivial⟩ ⟨⟨trivial, trivial⟩, row_refs _ _, ⟨trivial, trivial⟩, trivial⟩ ⟨rfl, trivial, rfl⟩)⟩
          ·rintro c3 hx_55
           rw [hx_55] at hb_36
           try dsimp only at hb_36
           try dsimp only
           refine AWp.reg ?_
           iterate 2 (refine AOps.consU fun K' hK' => ?_; simp (disch := omega) only [go_sem, ↓reduceIte]; refine hK' _ ?_; clear hK' K')
           refine AOps.nil ?_
           simp only [Post.then, Post.inBlock, ↓reduceIte, Nat.reduceEqDiff]
           rw [← Option.some.inj hb_36] at hl_34
           try dsimp only at hl_34
           exact ⟨(n_33, ((IntKind.i64.wrap (v2 + 1)), c3)), hl_34, Nat.lt_succ_self n_33, (Sub.mk ⟨rfl, rfl, rfl, rfl, rfl, rfl, rfl, rfl, rfl, trivial⟩ ⟨rfl, rfl, rfl, trivial⟩ ⟨trivial, rfl, rfl, trivial, rfl, trivial, trivial, trivial, trivial, trivial⟩ ⟨⟨trivial, trivial⟩, row_refs _ _, ⟨trivial, trivial⟩, trivial⟩ ⟨rfl, trivial, rfl⟩)⟩
         ·rw [hb_41, cond_false] at hb_36
          refine AWp.exit ?_
          simp only [Post.then, Post.inBlock, ↓reduceIte, Nat.reduceEqDiff]
          rw [← Option.some.inj hb_36] at hl_34
          try dsimp only at hl_34
          rw [← Option.some.inj hl_34] at h2_35
          try dsimp only at h2_35
          exact ⟨c2, (Option.some.inj h2_35).symm, (Sub.mk ⟨rfl, rfl, rfl, rfl, rfl, rfl, trivial⟩ ⟨rfl, rfl, rfl, trivial⟩ ⟨trivial, rfl, rfl, rfl, trivial, trivial, trivial⟩ ⟨⟨trivial, trivial⟩, row_refs _ _, ⟨trivial, trivial⟩, trivial⟩ ⟨rfl, trivial, rfl⟩)⟩
       ·rintro c1 hx_60
        rw [hx_60] at hj_27
        try dsimp only at hj_27
        try dsimp only
        refine AWp.reg ?_
        iterate 2 (refine AOps.consU fun K' hK' => ?_; simp (disch := omega) only [go_sem, ↓reduceIte]; refine hK' _ ?_; clear hK' K')
        refine AOps.consL fun K' hK' => ?_; simp (disch := omega) only [go_sem, ↓reduceIte]; refine hK' _ ?_; clear hK' K'
        obtain ⟨hg_58, hj_27⟩ := guardO_some hj_27
        iterate 2 (refine AOps.consU fun K' hK' => ?_; simp (disch := omega) only [go_sem, ↓reduceIte]; refine hK' _ ?_; clear hK' K')
        refine AOps.nil ?_
        simp only [Post.then, Post.inBlock, ↓reduceIte, Nat.reduceEqDiff]
        exact ⟨(L2 ++ [c1]), (Option.some.inj hj_27).symm, (Sub.mk ⟨rfl, rfl, slcl (by simp only [List.length_append, List.length_set, List.length_replicate, List.length_cons, List.length_nil, Nat.zero_add]), rfl, rfl, trivial⟩ ⟨rfl, rfl, trivial⟩ ⟨trivial, rfl, rfl, trivial, trivial, trivial⟩ ⟨⟨trivial, trivial⟩, row_refs _ _, trivial⟩ ⟨rfl, trivial, rfl⟩)⟩
      ·rintro L3 hx_63
       rw [hx_63] at hb_20
       try dsimp only at hb_20
       try dsimp only
       refine AWp.reg ?_
       iterate 2 (refine AOps.consU fun K' hK' => ?_; simp (disch := omega) only [go_sem, ↓reduceIte]; refine hK' _ ?_; clear hK' K')
       refine AOps.nil ?_
       simp only [Post.then, Post.inBlock, ↓reduceIte, Nat.reduceEqDiff]
       rw [← Option.some.inj hb_20] at hl_18
       try dsimp only at hl_18
       exact ⟨(n_17, ((IntKind.i64.wrap (v1 + 1)), L3)), hl_18, Nat.lt_succ_self n_17, (Sub.mk ⟨rfl, rfl, slcl (by simp only [List.length_append, List.length_set, List.length_replicate, List.length_cons, List.length_nil, Nat.zero_add]), rfl, rfl, trivial⟩ ⟨rfl, rfl, trivial⟩ ⟨trivial, rfl, rfl, trivial, trivial, trivial⟩ ⟨⟨trivial, trivial⟩, row_refs _ _, trivial⟩ ⟨rfl, trivial, rfl⟩)⟩
     ·rw [hb_25, cond_false] at hb_20
      refine AWp.exit ?_
      simp only [Post.then, Post.inBlock, ↓reduceIte, Nat.reduceEqDiff]
      rw [← Option.some.inj hb_20] at hl_18
      try dsimp only at hl_18
      rw [← Option.some.inj hl_18] at h2_19
      try dsimp only at h2_19
      exact ⟨L2, (Option.some.inj h2_19).symm, (Sub.mk ⟨slcl (by simp only [List.length_append, List.length_set, List.length_replicate, List.length_cons, List.length_nil, Nat.zero_add]), trivial⟩ ⟨rfl, trivial⟩ ⟨rfl, trivial⟩ ⟨row_refs _ _, trivial⟩ ⟨rfl, trivial, rfl⟩)⟩
   ·rintro L1 hx_67
    rw [hx_67] at h
    try dsimp only at h
    try dsimp only
    refine AWp.seq fun K_65 hK_65 => AWp.reg ?_
    iterate 3 (refine AOps.consU fun K' hK' => ?_; simp (disch := omega) only [go_sem, ↓reduceIte]; refine hK' _ ?_; clear hK' K')
    refine AOps.nil ?_
    simp only [Post.then]
    refine hK_65 _ ?_
    clear hK_65 K_65
    refine AWp.ret ?_
    simp only [Post.then, Post.inBlock, Go.Pv.Fin, Go.Pv.FinG]
    rw [← Option.some.inj h]
    refine ⟨.tuple [.slc 1001 0 L1.length, .d (.int .i64 0)], ?_, (by first | exact True.intro | rfl), .tuple [.d (.imm 2 (lenc Ratio.pd L1)), .d (.int .i64 0)], ?_, ?_⟩
    ·simp only [go_sem, Tryd.results23, List.length_append, List.length_set, List.length_replicate, ↓reduceIte]
    ·simp only [go_sem, lenc_nil, List.take_length, List.length_append, List.length_set, List.length_replicate, ↓reduceIte]
    ·(first | exact leV_refl _ | (simp only [go_sem, leV, leVL, leD, leDL, lenc_nil, leD_refl, leDL_refl, lstD_le, ↓reduceIte]; done))
end Go.Pv.Tryd

namespace Go.Pv.Tryd
open Go.Proofs Go.Pv
theorem m_rate_Best_ok (n1 : Int) (offers1 : (List Offer)) (from1 : Int) (to1 : Int) (r : (Ratio × (List Int) × Int)) (h : m_rate_Best n1 offers1 from1 to1 = some r) : PureFn Tryd.prog G 20 [.d (.int .i64 n1), .d (.imm 4 (lenc Offer.pd offers1)), .d (.int .i64 from1), .d (.int .i64 to1)] (.tuple [.d (.agg [(.int .i64 r.1.Num), (.int .i64 r.1.Den)]), .d (.imm 1 (lenc (PD.int .i64) r.2.1)), .d (.int .i64 r.2.2)]) := by
 unfold m_rate_Best at h
 refine PureFn.intro2 Tryd.func20 (by rfl) (by rw [Tryd.ntmps20]; simp) ?_
 rw [Tryd.ntmps20]
 simp only [argEnv, reduceCtorEq, ↓reduceIte, Nat.reduceAdd, Nat.reduceMul, Nat.reduceLT, Nat.reduceLeDiff, Nat.reduceEqDiff, Nat.reduceBEq, Int.reduceToNat]
 refine AWp.seq fun K_1 hK_1 => AWp.reg ?_
 iterate 3 (refine AOps.consU fun K' hK' => ?_; simp (disch := omega) only [go_sem, ↓reduceIte]; refine hK' _ ?_; clear hK' K')
 refine AOps.nil ?_
 simp only [Post.then]
 refine hK_1 _ ?_
 clear hK_1 K_1
 refine AWp.seq fun K_2 hK_2 => AWp.reg ?_
 iterate 2 (refine AOps.consU fun K' hK' => ?_; simp (disch := omega) only [go_sem, ↓reduceIte]; refine hK' _ ?_; clear hK' K')
 obtain ⟨r1, hx_3, h⟩ := bind_some h
 refine AOps.consU fun K' hK' => ?_; simp (disch := omega) only [go_sem, ↓reduceIte]; refine OpT.call (by rfl) (by rfl) (by kernel_rfl) (m_rate_of_ok n1 offers1 _ hx_3) (by exact ⟨rfl, rfl, trivial⟩) (by simp only [go_sem, ↓reduceIte]) ?_ (by simp only [go_sem]); simp only [go_sem, ↓reduceIte]; refine hK' _ ?_; clear hK' K'
 iterate 6 (refine AOps.consU fun K' hK' => ?_; simp (disch := omega) only [go_sem, ↓reduceIte]; refine hK' _ ?_; clear hK' K')
 refine AOps.nil ?_
 simp only [Post.then]
 refine hK_2 _ ?_
 clear hK_2 K_2
 refine AWp.seq fun K_4 hK_4 => ?_
 refine AWp.block ?_
 refine AWp.seq fun K_5 hK_5 => AWp.reg ?_
 iterate 3 (refine AOps.consU fun K' hK' => ?_; simp (disch := omega) only [go_sem, ↓reduceIte]; refine hK' _ ?_; clear hK' K')
 refine AOps.nil ?_
 simp only [Post.then]
 refine hK_5 _ ?_
 clear hK_5 K_5
 refine AWp.cond (b := (decide (¬r1.2 = 0))) (by rfl) (fun hb_6 => ?_) (fun hb_6 => ?_)
 ·rw [hb_6, cond_true] at h
  refine AWp.seq fun K_7 hK_7 => AWp.reg ?_
  iterate 5 (refine AOps.consU fun K' hK' => ?_; simp (disch := omega) only [go_sem, ↓reduceIte]; refine hK' _ ?_; clear hK' K')
  refine AOps.nil ?_
  simp only [Post.then]
  refine hK_7 _ ?_
  clear hK_7 K_7
  refine AWp.ret ?_
  simp only [Post.then, Post.inBlock, Go.Pv.Fin, Go.Pv.FinG]
  rw [← Option.some.inj h]
  refine ⟨.tuple [.d (.agg [(.int .i64 0), (.int .i64 0)]), .d .nilslice, .d (.int .i64 r1.2)], ?_, (by first | exact True.intro | rfl), .tuple [.d (.agg [(.int .i64 0), (.int .i64 0)]), .d .nilslice, .d (.int .i64 r1.2)], ?_, ?_⟩
  ·simp only [go_sem, Tryd.results20, List.length_append, List.length_set, List.length_replicate, ↓reduceIte]
  ·simp only [go_sem, lenc_nil, List.take_length, List.length_append, List.length_set, List.length_replicate, ↓reduceIte]
  ·(first | exact leV_refl _ | (simp only [go_sem, leV, leVL, leD, leDL, lenc_nil, leD_refl, leDL_refl, lstD_le, ↓reduceIte]; done))
 ·rw [hb_6, cond_false] at h
  refine AWp.seq fun K_8 hK_8 => AWp.reg ?_
  iterate 2 (refine AOps.consU fun K' hK' => ?_; simp (disch := omega) only [go_sem, ↓reduceIte]; refine hK' _ ?_; clear hK' K')
  obtain ⟨r2, hx_9, h⟩ := bind_some h
  refine AOps.consU fun K' hK' => ?_; simp (disch := omega) only [go_sem, ↓reduceIte]; refine OpT.call (by rfl) (by rfl) (by kernel_rfl) (m_rate_market_has_ok r1.1 from1 _ hx_9) (by exact ⟨rfl, rfl, trivial⟩) (by simp only [go_sem, ↓reduceIte]) ?_ (by simp only [go_sem]); simp only [go_sem, ↓reduceIte]; refine hK' _ ?_; clear hK' K'
  iterate 2 (refine AOps.consU fun K' hK' => ?_; simp (disch := omega) only [go_sem, ↓reduceIte]; refine hK' _ ?_; clear hK' K')
  obtain ⟨b1, hc_10, h⟩ := bind_some h
  refine AOps.cut 5 (⟨[(2, .d (.int .i64 from1)), (3, .d (.int .i64 to1)), (8, .ptr 1000 0 0), (11, .ptr 1001 0 0), (36, .d (.bool b1))], [(1000, ⟨26, 2, [.d (.agg [(.int .i64 0), (.int .i64 0)])]⟩), (1001, ⟨77, 2, [.d (.agg [(.int .i64 r1.1.n), (.imm 4 (lenc Offer.pd r1.1.offers))])]⟩)], [], none⟩) ?_ ?_
  ·simp only [List.take_succ_cons, List.take_zero]
   rcases Bool.eq_false_or_eq_true (!r2) with hg_12 | hg_12
   ·rw [hg_12]
    rw [hg_12, cond_true] at hc_10
    iterate 5 (refine AOps.consU fun K' hK' => ?_; simp (disch := omega) only [go_sem, ↓reduceIte]; refine hK' _ ?_; clear hK' K')
    refine AOps.nil ?_
    have hc_10 := Option.some.inj hc_10
    subst hc_10
    exact (Sub.mk ⟨rfl, rfl, rfl, rfl, rfl, trivial⟩ ⟨rfl, rfl, trivial⟩ ⟨trivial, trivial, rfl, rfl, trivial, trivial⟩ ⟨⟨trivial, trivial⟩, ⟨trivial, trivial⟩, trivial⟩ ⟨rfl, trivial, rfl⟩)
   ·rw [hg_12]
    rw [hg_12, cond_false] at hc_10
    iterate 2 (refine AOps.consU fun K' hK' => ?_; simp (disch := omega) only [go_sem, ↓reduceIte]; refine hK' _ ?_; clear hK' K')
    obtain ⟨r3, hx_11, hc_10⟩ := bind_some hc_10
    refine AOps.consU fun K' hK' => ?_; simp (disch := omega) only [go_sem, ↓reduceIte]; refine OpT.call (by rfl) (by rfl) (by kernel_rfl) (m_rate_market_has_ok r1.1 to1 _ hx_11) (by exact ⟨rfl, rfl, trivial⟩) (by simp only [go_sem, ↓reduceIte]) ?_ (by simp only [go_sem]); simp only [go_sem, ↓reduceIte]; refine hK' _ ?_; clear hK' K'
    iterate 2 (refine AOps.consU fun K' hK' => ?_; simp (disch := omega) only [go_sem, ↓reduceIte]; refine hK' _ ?_; clear hK' K')
    refine AOps.nil ?_
    have hc_10 := Option.some.inj hc_10
    subst hc_10
    exact (Sub.mk ⟨rfl, rfl, rfl, rfl, rfl, trivial⟩ ⟨rfl, rfl, trivial⟩ ⟨trivial, trivial, rfl, rfl, trivial, trivial⟩ ⟨⟨trivial, trivial⟩, ⟨trivial, trivial⟩, trivial⟩ ⟨rfl, trivial, rfl⟩)
  simp only [List.drop_succ_cons, List.drop_zero]
  iterate 1 (refine AOps.consU fun K' hK' => ?_; simp (disch := omega) only [go_sem, ↓reduceIte]; refine hK' _ ?_; clear hK' K')
  refine AOps.nil ?_
  simp only [Post.then]
  refine hK_8 _ ?_
  clear hK_8 K_8
  refine AWp.cond (b := b1) (by rfl) (fun hb_13 => ?_) (fun hb_13 => ?_)
  ·rw [hb_13, cond_true] at h
   refine AWp.seq fun K_14 hK_14 => AWp.reg ?_
   iterate 4 (refine AOps.consU fun K' hK' => ?_; simp (disch := omega) only [go_sem, ↓reduceIte]; refine hK' _ ?_; clear hK' K')
   refine AOps.nil ?_
   simp only [Post.then]
   refine hK_14 _ ?_
   clear hK_14 K_14
   refine AWp.ret ?_
   simp only [Post.then, Post.inBlock, Go.Pv.Fin, Go.Pv.FinG]
   rw [← Option.some.inj h]
   refine ⟨.tuple [.d (.agg [(.int .i64 0), (.int .i64 0)]), .d .nilslice, .d (.int .i64 2)], ?_, (by first | exact True.intro | rfl), .tuple [.d (.agg [(.int .i64 0), (.int .i64 0)]), .d .nilslice, .d (.int .i64 2)], ?_, ?_⟩
   ·simp only [go_sem, Tryd.results20, List.length_append, List.length_set, List.length_replicate, ↓reduceIte]
   ·simp only [go_sem, lenc_nil, List.take_length, List.length_append, List.length_set, List.length_replicate, ↓reduceIte]
   ·(first | exact leV_refl _ | (simp only [go_sem, leV, leVL, leD, leDL, lenc_nil, leD_refl, leDL_refl, lstD_le, ↓reduceIte]; done))
  ·rw [hb_13, cond_false] at h
   refine AWp.seq fun K_15 hK_15 => AWp.reg ?_
   iterate 1 (refine AOps.consU fun K' hK' => ?_; simp (disch := omega) only [go_sem, ↓reduceIte]; refine hK' _ ?_; clear hK' K')
   obtain ⟨r4, hx_16, h⟩ := bind_some h
   refine AOps.consU fun K' hK' => ?_; simp (disch := omega) only [go_sem, ↓reduceIte]; refine OpT.call (by rfl) (by rfl) (by kernel_rfl) (m_rate_market_round_ok r1.1 _ hx_16) (by exact ⟨rfl, trivial⟩) (by simp only [go_sem, ↓reduceIte]) ?_ (by simp only [go_sem]); simp only [go_sem, ↓reduceIte]; refine hK' _ ?_; clear hK' K'
   iterate 2 (refine AOps.consU fun K' hK' => ?_; simp (disch := omega) only [go_sem, ↓reduceIte]; refine hK' _ ?_; clear hK' K')
   refine AOps.nil ?_
   simp only [Post.then]
   refine hK_15 _ ?_
   clear hK_15 K_15
   refine AWp.cond (b := (!(r4).isEmpty)) (by rfl) (fun hb_17 => ?_) (fun hb_17 => ?_)
   ·rw [hb_17, cond_true] at h
    refine AWp.seq fun K_18 hK_18 => AWp.reg ?_
    iterate 4 (refine AOps.consU fun K' hK' => ?_; simp (disch := omega) only [go_sem, ↓reduceIte]; refine hK' _ ?_; clear hK' K')
    refine AOps.nil ?_
    simp only [Post.then]
    refine hK_18 _ ?_
    clear hK_18 K_18
    refine AWp.ret ?_
    simp only [Post.then, Post.inBlock, Go.Pv.Fin, Go.Pv.FinG]
    rw [← Option.some.inj h]
    refine ⟨.tuple [.d (.agg [(.int .i64 0), (.int .i64 0)]), .d .nilslice, .d (.int .i64 11)], ?_, (by first | exact True.intro | rfl), .tuple [.d (.agg [(.int .i64 0), (.int .i64 0)]), .d .nilslice, .d (.int .i64 11)], ?_, ?_⟩
    ·simp only [go_sem, Tryd.results20, List.length_append, List.length_set, List.length_replicate, ↓reduceIte]
    ·simp only [go_sem, lenc_nil, List.take_length, List.length_append, List.length_set, List.length_replicate, ↓reduceIte]
    ·(first | exact leV_refl _ | (simp only [go_sem, leV, leVL, leD, leDL, lenc_nil, leD_refl, leDL_refl, lstD_le, ↓reduceIte]; done))
   ·rw [hb_17, cond_false] at h
    refine AWp.skip ?_
    simp only [Post.then, Post.inBlock, ↓reduceIte, Nat.reduceEqDiff]
    refine hK_4 _ ?_
    clear hK_4 K_4
    refine AWp.seq fun K_19 hK_19 => AWp.reg ?_
    iterate 3 (refine AOps.consU fun K' hK' => ?_; simp (disch := omega) only [go_sem, ↓reduceIte]; refine hK' _ ?_; clear hK' K')
    obtain ⟨r5, hx_20, h⟩ := bind_some h
    refine AOps.consU fun K' hK' => ?_; simp (disch := omega) only [go_sem, ↓reduceIte]; refine OpT.call (by rfl) (by rfl) (by kernel_rfl) (m_rate_market_best_ok r1.1 from1 to1 _ hx_20) (by exact ⟨rfl, rfl, rfl, trivial⟩) (by simp only [go_sem, ↓reduceIte]) ?_ (by simp only [go_sem]); simp only [go_sem, ↓reduceIte]; refine hK' _ ?_; clear hK' K'
    iterate 6 (refine AOps.consU fun K' hK' => ?_; simp (disch := omega) only [go_sem, ↓reduceIte]; refine hK' _ ?_; clear hK' K')
    refine AOps.nil ?_
    simp only [Post.then]
    refine hK_19 _ ?_
    clear hK_19 K_19
    refine AWp.seq fun K_21 hK_21 => ?_
    refine AWp.seq fun K_22 hK_22 => AWp.reg ?_
    iterate 2 (refine AOps.consU fun K' hK' => ?_; simp (disch := omega) only [go_sem, ↓reduceIte]; refine hK' _ ?_; clear hK' K')
    refine AOps.nil ?_
    simp only [Post.then]
    refine hK_22 _ ?_
    clear hK_22 K_22
    refine AWp.cond (b := (!r5.2)) (by rfl) (fun hb_23 => ?_) (fun hb_23 => ?_)
    ·rw [hb_23, cond_true] at h
     refine AWp.seq fun K_24 hK_24 => AWp.reg ?_
     iterate 4 (refine AOps.consU fun K' hK' => ?_; simp (disch := omega) only [go_sem, ↓reduceIte]; refine hK' _ ?_; clear hK' K')
     refine AOps.nil ?_
     simp only [Post.then]
     refine hK_24 _ ?_
     clear hK_24 K_24
     refine AWp.ret ?_
     simp only [Post.then, Post.inBlock, Go.Pv.Fin, Go.Pv.FinG]
     rw [← Option.some.inj h]
     refine ⟨.tuple [.d (.agg [(.int .i64 0), (.int .i64 0)]), .d .nilslice, .d (.int .i64 10)], ?_, (by first | exact True.intro | rfl), .tuple [.d (.agg [(.int .i64 0), (.int .i64 0)]), .d .nilslice, .d (.int .i64 10)], ?_, ?_⟩
     ·simp only [go_sem, Tryd.results20, List.length_append, List.length_set, List.length_replicate, ↓reduceIte]
     ·simp only [go_sem, lenc_nil, List.take_length, List.length_append, List.length_set, List.length_replicate, ↓reduceIte]
     ·(first | exact leV_refl _ | (simp only [go_sem, leV, leVL, leD, leDL, lenc_nil, leD_refl, leDL_refl, lstD_le, ↓reduceIte]; done))
    ·rw [hb_23, cond_false] at h
     refine AWp.skip ?_
     simp only [Post.then, Post.inBlock, ↓reduceIte, Nat.reduceEqDiff]
     refine hK_21 _ ?_
     clear hK_21 K_21
     refine AWp.seq fun K_25 hK_25 => AWp.draw mo [] (by trivial) ?_
     iterate 7 (refine DOps.consU fun K' hK' => ?_; simp (disch := omega) only [go_sem, ↓reduceIte]; refine hK' _ _ ?_; clear hK' K'; simp only [List.nil_append, List.cons_append])
     refine DOps.nil (by kernel_rfl) ?_
     simp only [Post.then]
     refine hK_25 _ ?_
     clear hK_25 K_25
     refine AWp.ret ?_
     simp only [Post.then, Post.inBlock, Go.Pv.Fin, Go.Pv.FinG]
     rw [← Option.some.inj h]
     refine ⟨.tuple [.d (.agg [(.int .i64 r5.1.rate.Num), (.int .i64 r5.1.rate.Den)]), .d (lstD 1 (lenc (PD.int .i64) r5.1.list)), .d (.int .i64 0)], ?_, (by first | exact True.intro | rfl), .tuple [.d (.agg [(.int .i64 r5.1.rate.Num), (.int .i64 r5.1.rate.Den)]), .d (lstD 1 (lenc (PD.int .i64) r5.1.list)), .d (.int .i64 0)], ?_, ?_⟩
     ·simp only [go_sem, Tryd.results20, List.length_append, List.length_set, List.length_replicate, ↓reduceIte]
     ·simp only [go_sem, lenc_nil, List.take_length, List.length_append, List.length_set, List.length_replicate, ↓reduceIte]
     ·(first | exact leV_refl _ | (simp only [go_sem, leV, leVL, leD, leDL, lenc_nil, leD_refl, leDL_refl, lstD_le, ↓reduceIte]; done))
end Go.Pv.Tryd

namespace Go.Pv.Tryd
open Go.Proofs Go.Pv
theorem m_rate_Round_ok (n1 : Int) (offers1 : (List Offer)) (r : ((List Int) × Int)) (h : m_rate_Round n1 offers1 = some r) : PureFn Tryd.prog G 26 [.d (.int .i64 n1), .d (.imm 4 (lenc Offer.pd offers1))] (.tuple [.d (.imm 1 (lenc (PD.int .i64) r.1)), .d (.int .i64 r.2)]) := by
 unfold m_rate_Round at h
 refine PureFn.intro2 Tryd.func26 (by rfl) (by rw [Tryd.ntmps26]; simp) ?_
 rw [Tryd.ntmps26]
 simp only [argEnv, reduceCtorEq, ↓reduceIte, Nat.reduceAdd, Nat.reduceMul, Nat.reduceLT, Nat.reduceLeDiff, Nat.reduceEqDiff, Nat.reduceBEq, Int.reduceToNat]
 refine AWp.seq fun K_1 hK_1 => AWp.reg ?_
 iterate 2 (refine AOps.consU fun K' hK' => ?_; simp (disch := omega) only [go_sem, ↓reduceIte]; refine hK' _ ?_; clear hK' K')
 refine AOps.nil ?_
 simp only [Post.then]
 refine hK_1 _ ?_
 clear hK_1 K_1
 refine AWp.seq fun K_2 hK_2 => AWp.reg ?_
 iterate 2 (refine AOps.consU fun K' hK' => ?_; simp (disch := omega) only [go_sem, ↓reduceIte]; refine hK' _ ?_; clear hK' K')
 obtain ⟨r1, hx_3, h⟩ := bind_some h
 refine AOps.consU fun K' hK' => ?_; simp (disch := omega) only [go_sem, ↓reduceIte]; refine OpT.call (by rfl) (by rfl) (by kernel_rfl) (m_rate_of_ok n1 offers1 _ hx_3) (by exact ⟨rfl, rfl, trivial⟩) (by simp only [go_sem, ↓reduceIte]) ?_ (by simp only [go_sem]); simp only [go_sem, ↓reduceIte]; refine hK' _ ?_; clear hK' K'
 iterate 6 (refine AOps.consU fun K' hK' => ?_; simp (disch := omega) only [go_sem, ↓reduceIte]; refine hK' _ ?_; clear hK' K')
 refine AOps.nil ?_
 simp only [Post.then]
 refine hK_2 _ ?_
 clear hK_2 K_2
 refine AWp.seq fun K_4 hK_4 => ?_
 refine AWp.seq fun K_5 hK_5 => AWp.reg ?_
 iterate 2 (refine AOps.consU fun K' hK' => ?_; simp (disch := omega) only [go_sem, ↓reduceIte]; refine hK' _ ?_; clear hK' K')
 refine AOps.nil ?_
 simp only [Post.then]
 refine hK_5 _ ?_
 clear hK_5 K_5
 refine AWp.cond (b := (decide (¬r1.2 = 0))) (by rfl) (fun hb_6 => ?_) (fun hb_6 => ?_)
 ·rw [hb_6, cond_true] at h
  refine AWp.seq fun K_7 hK_7 => AWp.reg ?_
  iterate 3 (refine AOps.consU fun K' hK' => ?_; simp (disch := omega) only [go_sem, ↓reduceIte]; refine hK' _ ?_; clear hK' K')
  refine AOps.nil ?_
  simp only [Post.then]
  refine hK_7 _ ?_
  clear hK_7 K_7
  refine AWp.ret ?_
  simp only [Post.then, Post.inBlock, Go.Pv.Fin, Go.Pv.FinG]
  rw [← Option.some.inj h]
  refine ⟨.tuple [.d .nilslice, .d (.int .i64 r1.2)], ?_, (by first | exact True.intro | rfl), .tuple [.d .nilslice, .d (.int .i64 r1.2)], ?_, ?_⟩
  ·simp only [go_sem, Tryd.results26, List.length_append, List.length_set, List.length_replicate, ↓reduceIte]
  ·simp only [go_sem, lenc_nil, List.take_length, List.length_append, List.length_set, List.length_replicate, ↓reduceIte]
  ·(first | exact leV_refl _ | (simp only [go_sem, leV, leVL, leD, leDL, lenc_nil, leD_refl, leDL_refl, lstD_le, ↓reduceIte]; done))
 ·rw [hb_6, cond_false] at h
  refine AWp.skip ?_
  simp only [Post.then, Post.inBlock, ↓reduceIte, Nat.reduceEqDiff]
  refine hK_4 _ ?_
  clear hK_4 K_4
  refine AWp.seq fun K_8 hK_8 => AWp.reg ?_
  iterate 1 (refine AOps.consU fun K' hK' => ?_; simp (disch := omega) only [go_sem, ↓reduceIte]; refine hK' _ ?_; clear hK' K')
  obtain ⟨r2, hx_9, h⟩ := bind_some h
  refine AOps.consU fun K' hK' => ?_; simp (disch := omega) only [go_sem, ↓reduceIte]; refine OpT.call (by rfl) (by rfl) (by kernel_rfl) (m_rate_market_round_ok r1.1 _ hx_9) (by exact ⟨rfl, trivial⟩) (by simp only [go_sem, ↓reduceIte]) ?_ (by simp only [go_sem]); simp only [go_sem, ↓reduceIte]; refine hK' _ ?_; clear hK' K'
  iterate 1 (refine AOps.consU fun K' hK' => ?_; simp (disch := omega) only [go_sem, ↓reduceIte]; refine hK' _ ?_; clear hK' K')
  refine AOps.nil ?_
  simp only [Post.then]
  refine hK_8 _ ?_
  clear hK_8 K_8
  refine AWp.seq fun K_10 hK_10 => ?_
  refine AWp.seq fun K_11 hK_11 => AWp.reg ?_
  iterate 2 (refine AOps.consU fun K' hK' => ?_; simp (disch := omega) only [go_sem, ↓reduceIte]; refine hK' _ ?_; clear hK' K')
  refine AOps.nil ?_
  simp only [Post.then]
  refine hK_11 _ ?_
  clear hK_11 K_11
  refine AWp.cond (b := (r2).isEmpty) (by rfl) (fun hb_12 => ?_) (fun hb_12 => ?_)
  ·rw [hb_12, cond_true] at h
   refine AWp.seq fun K_13 hK_13 => AWp.reg ?_
   iterate 2 (refine AOps.consU fun K' hK' => ?_; simp (disch := omega) only [go_sem, ↓reduceIte]; refine hK' _ ?_; clear hK' K')
   refine AOps.nil ?_
   simp only [Post.then]
   refine hK_13 _ ?_
   clear hK_13 K_13
   refine AWp.ret ?_
   simp only [Post.then, Post.inBlock, Go.Pv.Fin, Go.Pv.FinG]
   rw [← Option.some.inj h]
   refine ⟨.tuple [.d .nilslice, .d (.int .i64 10)], ?_, (by first | exact True.intro | rfl), .tuple [.d .nilslice, .d (.int .i64 10)], ?_, ?_⟩
   ·simp only [go_sem, Tryd.results26, List.length_append, List.length_set, List.length_replicate, ↓reduceIte]
   ·simp only [go_sem, lenc_nil, List.take_length, List.length_append, List.length_set, List.length_replicate, ↓reduceIte]
   ·(first | exact leV_refl _ | (simp only [go_sem, leV, leVL, leD, leDL, lenc_nil, leD_refl, leDL_refl, lstD_le, ↓reduceIte]; done))
  ·rw [hb_12, cond_false] at h
   refine AWp.skip ?_
   simp only [Post.then, Post.inBlock, ↓reduceIte, Nat.reduceEqDiff]
   refine hK_10 _ ?_
   clear hK_10 K_10
   refine AWp.seq fun K_14 hK_14 => AWp.reg ?_
   iterate 3 (refine AOps.consU fun K' hK' => ?_; simp (disch := omega) only [go_sem, ↓reduceIte]; refine hK' _ ?_; clear hK' K')
   refine AOps.nil ?_
   simp only [Post.then]
   refine hK_14 _ ?_
   clear hK_14 K_14
   refine AWp.ret ?_
   simp only [Post.then, Post.inBlock, Go.Pv.Fin, Go.Pv.FinG]
   rw [← Option.some.inj h]
   refine ⟨.tuple [.d (lstD 1 (lenc (PD.int .i64) r2)), .d (.int .i64 0)], ?_, (by first | exact True.intro | rfl), .tuple [.d (lstD 1 (lenc (PD.int .i64) r2)), .d (.int .i64 0)], ?_, ?_⟩
   ·simp only [go_sem, Tryd.results26, List.length_append, List.length_set, List.length_replicate, ↓reduceIte]
   ·simp only [go_sem, lenc_nil, List.take_length, List.length_append, List.length_set, List.length_replicate, ↓reduceIte]
   ·(first | exact leV_refl _ | (simp only [go_sem, leV, leVL, leD, leDL, lenc_nil, leD_refl, leDL_refl, lstD_le, ↓reduceIte]; done))
end Go.Pv.Tryd

namespace Go.Pv.Tryd
open Go.Proofs Go.Pv
theorem m_cocketlaw01_same_ok (a1 : (List Int)) (b1 : (List Int)) (r : Bool) (h : m_cocketlaw01_same a1 b1 = some r) : PureFn Tryd.prog G 21 [.d (.imm 1 (lenc (PD.int .i64) a1)), .d (.imm 1 (lenc (PD.int .i64) b1))] (.d (.bool r)) := by
 unfold m_cocketlaw01_same at h
 refine PureFn.intro2 Tryd.func21 (by rfl) (by rw [Tryd.ntmps21]; simp) ?_
 rw [Tryd.ntmps21]
 simp only [argEnv, reduceCtorEq, ↓reduceIte, Nat.reduceAdd, Nat.reduceMul, Nat.reduceLT, Nat.reduceLeDiff, Nat.reduceEqDiff, Nat.reduceBEq, Int.reduceToNat]
 refine AWp.seq fun K_1 hK_1 => AWp.reg ?_
 iterate 1 (refine AOps.consU fun K' hK' => ?_; simp (disch := omega) only [go_sem, ↓reduceIte]; refine hK' _ ?_; clear hK' K')
 refine AOps.nil ?_
 simp only [Post.then]
 refine hK_1 _ ?_
 clear hK_1 K_1
 refine AWp.seq fun K_2 hK_2 => ?_
 refine AWp.seq fun K_3 hK_3 => AWp.reg ?_
 iterate 5 (refine AOps.consU fun K' hK' => ?_; simp (disch := omega) only [go_sem, ↓reduceIte]; refine hK' _ ?_; clear hK' K')
 refine AOps.nil ?_
 simp only [Post.then]
 refine hK_3 _ ?_
 clear hK_3 K_3
 refine AWp.cond (b := (decide (¬(a1.length : Int) = (b1.length : Int)))) (by rfl) (fun hb_4 => ?_) (fun hb_4 => ?_)
 ·rw [hb_4, cond_true] at h
  refine AWp.seq fun K_5 hK_5 => AWp.reg ?_
  iterate 1 (refine AOps.consU fun K' hK' => ?_; simp (disch := omega) only [go_sem, ↓reduceIte]; refine hK' _ ?_; clear hK' K')
  refine AOps.nil ?_
  simp only [Post.then]
  refine hK_5 _ ?_
  clear hK_5 K_5
  refine AWp.ret ?_
  simp only [Post.then, Post.inBlock, Go.Pv.Fin, Go.Pv.FinG]
  rw [← Option.some.inj h]
  refine ⟨.d (.bool false), ?_, (by first | exact True.intro | rfl), .d (.bool false), ?_, ?_⟩
  ·simp only [go_sem, Tryd.results21, List.length_append, List.length_set, List.length_replicate, ↓reduceIte]
  ·simp only [go_sem, lenc_nil, List.take_length, List.length_append, List.length_set, List.length_replicate, ↓reduceIte]
  ·(first | exact leV_refl _ | (simp only [go_sem, leV, leVL, leD, leDL, lenc_nil, leD_refl, leDL_refl, lstD_le, ↓reduceIte]; done))
 ·rw [hb_4, cond_false] at h
  refine AWp.skip ?_
  simp only [Post.then, Post.inBlock, ↓reduceIte, Nat.reduceEqDiff]
  refine hK_2 _ ?_
  clear hK_2 K_2
  obtain ⟨o_6, hj_7, h⟩ := bind_some h
  refine AWp.seqI (fun i_35 : Unit => ⟨[], [], [], none⟩) (fun i_35 => o_6 = (.inl i_35)) ?_ ?_
  ·refine AWp.seq fun K_8 hK_8 => AWp.reg ?_
   iterate 1 (refine AOps.consU fun K' hK' => ?_; simp (disch := omega) only [go_sem, ↓reduceIte]; refine hK' _ ?_; clear hK' K')
   refine AOps.nil ?_
   simp only [Post.then]
   refine hK_8 _ ?_
   clear hK_8 K_8
   refine AWp.block ?_
   obtain ⟨x_13, hl_10, h2_11⟩ := bind_some hj_7
   obtain ⟨n_9, hl_10⟩ := iter_some hl_10
   refine AWp.loopI (fun i_33 : Nat × Int => ⟨[(0, .d (.imm 1 (lenc (PD.int .i64) a1))), (1, .d (.imm 1 (lenc (PD.int .i64) b1))), (5, .d (.int .i64 i_33.2))], [], [], none⟩) (fun i_33 => iterN (m_cocketlaw01_same_l1 a1 b1) i_33.1 i_33.2 = some x_13) (fun i_33 => i_33.1) (n_9, 0) hl_10 (Sub.mk ⟨rfl, rfl, rfl, trivial⟩ trivial ⟨trivial, trivial, trivial, trivial⟩ trivial ⟨rfl, trivial, rfl⟩) ?_
   clear hl_10
   rintro ⟨n_9, i1⟩ hl_10
   try dsimp only at hl_10
   try dsimp only
   cases n_9 with
   | zero => cases hl_10
   | succ n_9 =>
    rw [iterN_succ] at hl_10
    obtain ⟨ob_14, hb_12, hl_10⟩ := bind_some hl_10
    unfold m_cocketlaw01_same_l1 at hb_12
    try dsimp only at hb_12
    refine AWp.seq fun K_15 hK_15 => ?_
    refine AWp.seq fun K_16 hK_16 => AWp.reg ?_
    iterate 4 (refine AOps.consU fun K' hK' => ?_; simp (disch := omega) only [go_sem, ↓reduceIte]; refine hK' _ ?_; clear hK' K')
    refine AOps.nil ?_
    simp only [Post.then]
    refine hK_16 _ ?_
    clear hK_16 K_16
    refine AWp.cond (b := (decide (i1 < (a1.length : Int)))) (by rfl) (fun hb_17 => ?_) (fun hb_17 => ?_)
    ·rw [hb_17, cond_true] at hb_12
     refine AWp.skip ?_
     simp only [Post.then, Post.inBlock, ↓reduceIte, Nat.reduceEqDiff]
     refine hK_15 _ ?_
     clear hK_15 K_15
     refine AWp.seq fun K_18 hK_18 => ?_
     refine AWp.block ?_
     refine AWp.seq fun K_19 hK_19 => AWp.draw mo [] (by trivial) ?_
     obtain ⟨e1, hx_20, hb_12⟩ := bind_some hb_12
     obtain ⟨f_21, f_22, f_23, f_24⟩ := idx_some hx_20
     obtain ⟨e2, hx_25, hb_12⟩ := bind_some hb_12
     obtain ⟨f_26, f_27, f_28, f_29⟩ := idx_some hx_25
     iterate 9 (refine DOps.consU fun K' hK' => ?_; simp (disch := omega) only [go_sem, f_23, f_28, ↓reduceIte]; refine hK' _ _ ?_; clear hK' K'; simp only [List.nil_append, List.cons_append])
     refine DOps.nil (by kernel_rfl) ?_
     simp only [Post.then]
     refine hK_19 _ ?_
     clear hK_19 K_19
     refine AWp.cond (b := (decide (¬e1 = e2))) (by rfl) (fun hb_30 => ?_) (fun hb_30 => ?_)
     ·rw [hb_30, cond_true] at hb_12
      refine AWp.seq fun K_31 hK_31 => AWp.reg ?_
      iterate 1 (refine AOps.consU fun K' hK' => ?_; simp (disch := omega) only [go_sem, ↓reduceIte]; refine hK' _ ?_; clear hK' K')
      refine AOps.nil ?_
      simp only [Post.then]
      refine hK_31 _ ?_
      clear hK_31 K_31
      refine AWp.ret ?_
      simp only [Post.then, Post.inBlock, Go.Pv.Fin, Go.Pv.FinG]
      rw [← Option.some.inj hb_12] at hl_10
      try dsimp only at hl_10
      rw [← Option.some.inj hl_10] at h2_11
      try dsimp only at h2_11
      rw [← Option.some.inj h2_11] at h
      try dsimp only at h
      rw [← Option.some.inj h]
      refine ⟨.d (.bool false), ?_, (by first | exact True.intro | rfl), .d (.bool false), ?_, ?_⟩
      ·simp only [go_sem, Tryd.results21, List.length_append, List.length_set, List.length_replicate, ↓reduceIte]
      ·simp only [go_sem, lenc_nil, List.take_length, List.length_append, List.length_set, List.length_replicate, ↓reduceIte]
      ·(first | exact leV_refl _ | (simp only [go_sem, leV, leVL, leD, leDL, lenc_nil, leD_refl, leDL_refl, lstD_le, ↓reduceIte]; done))
     ·rw [hb_30, cond_false] at hb_12
      refine AWp.skip ?_
      simp only [Post.then, Post.inBlock, ↓reduceIte, Nat.reduceEqDiff]
      refine hK_18 _ ?_
      clear hK_18 K_18
      refine AWp.reg ?_
      iterate 3 (refine AOps.consU fun K' hK' => ?_; simp (disch := omega) only [go_sem, ↓reduceIte]; refine hK' _ ?_; clear hK' K')
      refine AOps.nil ?_
      simp only [Post.then, Post.inBlock, ↓reduceIte, Nat.reduceEqDiff]
      rw [← Option.some.inj hb_12] at hl_10
      try dsimp only at hl_10
      exact ⟨(n_9, (IntKind.i64.wrap (i1 + 1))), hl_10, Nat.lt_succ_self n_9, (Sub.mk ⟨rfl, rfl, rfl, trivial⟩ trivial ⟨trivial, trivial, trivial, trivial⟩ trivial ⟨rfl, trivial, rfl⟩)⟩
    ·rw [hb_17, cond_false] at hb_12
     refine AWp.exit ?_
     simp only [Post.then, Post.inBlock, ↓reduceIte, Nat.reduceEqDiff]
     rw [← Option.some.inj hb_12] at hl_10
     try dsimp only at hl_10
     rw [← Option.some.inj hl_10] at h2_11
     try dsimp only at h2_11
     exact ⟨(), (Option.some.inj h2_11).symm, (Sub.mk trivial trivial trivial trivial ⟨rfl, trivial, rfl⟩)⟩
  ·rintro _ hx_36
   rw [hx_36] at h
   try dsimp only at h
   try dsimp only
   refine AWp.seq fun K_34 hK_34 => AWp.reg ?_
   iterate 1 (refine AOps.consU fun K' hK' => ?_; simp (disch := omega) only [go_sem, ↓reduceIte]; refine hK' _ ?_; clear hK' K')
   refine AOps.nil ?_
   simp only [Post.then]
   refine hK_34 _ ?_
   clear hK_34 K_34
   refine AWp.ret ?_
   simp only [Post.then, Post.inBlock, Go.Pv.Fin, Go.Pv.FinG]
   rw [← Option.some.inj h]
   refine ⟨.d (.bool true), ?_, (by first | exact True.intro | rfl), .d (.bool true), ?_, ?_⟩
   ·simp only [go_sem, Tryd.results21, List.length_append, List.length_set, List.length_replicate, ↓reduceIte]
   ·simp only [go_sem, lenc_nil, List.take_length, List.length_append, List.length_set, List.length_replicate, ↓reduceIte]
   ·(first | exact leV_refl _ | (simp only [go_sem, leV, leVL, leD, leDL, lenc_nil, leD_refl, leDL_refl, lstD_le, ↓reduceIte]; done))
end Go.Pv.Tryd

namespace Go.Pv.Tryd
open Go.Proofs Go.Pv
theorem m_cocketlaw01_alive_ok (r : Bool) (h : m_cocketlaw01_alive = some r) : PureFn Tryd.prog G 18 [] (.d (.bool r)) := by
 unfold m_cocketlaw01_alive at h
 refine PureFn.intro2 Tryd.func18 (by rfl) (by rw [Tryd.ntmps18]; simp) ?_
 rw [Tryd.ntmps18]
 simp only [argEnv, reduceCtorEq, ↓reduceIte, Nat.reduceAdd, Nat.reduceMul, Nat.reduceLT, Nat.reduceLeDiff, Nat.reduceEqDiff, Nat.reduceBEq, Int.reduceToNat]
 refine AWp.seq fun K_1 hK_1 => AWp.reg ?_
 iterate 1 (refine AOps.consU fun K' hK' => ?_; simp (disch := omega) only [go_sem, ↓reduceIte]; refine hK' _ ?_; clear hK' K')
 refine AOps.nil ?_
 simp only [Post.then]
 refine hK_1 _ ?_
 clear hK_1 K_1
 refine AWp.seq fun K_2 hK_2 => AWp.reg ?_
 obtain ⟨r1, hx_3, h⟩ := bind_some h
 refine AOps.consU fun K' hK' => ?_; simp (disch := omega) only [go_sem, ↓reduceIte]; refine OpT.callRow (r := 1000) (by rfl) (by rfl) (by rfl) (by kernel_rfl) (m_cocketlaw01_ring_ok _ hx_3) (by exact trivial) (by simp only [go_sem, ↓reduceIte]) (by rfl) (by decide) ?_; simp only [go_sem, ↓reduceIte]; refine hK' _ ?_; clear hK' K'
 refine AOps.sub (τ := ⟨[(10, .d (.imm 4 (lenc Offer.pd r1)))], [], [], none⟩) (Sub.cv trivial ⟨.inr ⟨_, frz_row rfl (rfl), leV_refl _, rows_slc rfl⟩, trivial⟩ trivial ⟨rfl, trivial, rfl⟩) ?_
 obtain ⟨r2, hx_4, h⟩ := bind_some h
 refine AOps.consU fun K' hK' => ?_; simp (disch := omega) only [go_sem, ↓reduceIte]; refine OpT.call (by rfl) (by rfl) (by kernel_rfl) (m_rate_Prices_ok 3 r1 _ hx_4) (by exact ⟨rfl, rfl, trivial⟩) (by simp only [go_sem, ↓reduceIte]) ?_ (by simp only [go_sem]); simp only [go_sem, ↓reduceIte]; refine hK' _ ?_; clear hK' K'
 iterate 5 (refine AOps.consU fun K' hK' => ?_; simp (disch := omega) only [go_sem, ↓reduceIte]; refine hK' _ ?_; clear hK' K')
 refine AOps.nil ?_
 simp only [Post.then]
 refine hK_2 _ ?_
 clear hK_2 K_2
 refine AWp.seq fun K_5 hK_5 => AWp.reg ?_
 obtain ⟨r3, hx_6, h⟩ := bind_some h
 refine AOps.consU fun K' hK' => ?_; simp (disch := omega) only [go_sem, ↓reduceIte]; refine OpT.callRow (r := 1000) (by rfl) (by rfl) (by rfl) (by kernel_rfl) (m_cocketlaw01_ring_ok _ hx_6) (by exact trivial) (by simp only [go_sem, ↓reduceIte]) (by rfl) (by decide) ?_; simp only [go_sem, ↓reduceIte]; refine hK' _ ?_; clear hK' K'
 refine AOps.sub (τ := ⟨[(1, .d (.imm 2 (lenc Ratio.pd r2.1))), (2, .d (.int .i64 r2.2)), (15, .d (.imm 4 (lenc Offer.pd r3)))], [], [], none⟩) (Sub.cv trivial ⟨.inl ⟨leV_refl _, trivial⟩, .inl ⟨leV_refl _, trivial⟩, .inr ⟨_, frz_row rfl (rfl), leV_refl _, rows_slc rfl⟩, trivial⟩ trivial ⟨rfl, trivial, rfl⟩) ?_
 obtain ⟨r4, hx_7, h⟩ := bind_some h
 refine AOps.consU fun K' hK' => ?_; simp (disch := omega) only [go_sem, ↓reduceIte]; refine OpT.call (by rfl) (by rfl) (by kernel_rfl) (m_rate_Best_ok 3 r3 0 2 _ hx_7) (by exact ⟨rfl, rfl, rfl, rfl, trivial⟩) (by simp only [go_sem, ↓reduceIte]) ?_ (by simp only [go_sem]); simp only [go_sem, ↓reduceIte]; refine hK' _ ?_; clear hK' K'
 iterate 8 (refine AOps.consU fun K' hK' => ?_; simp (disch := omega) only [go_sem, ↓reduceIte]; refine hK' _ ?_; clear hK' K')
 refine AOps.nil ?_
 simp only [Post.then]
 refine hK_5 _ ?_
 clear hK_5 K_5
 refine AWp.seq fun K_8 hK_8 => AWp.reg ?_
 obtain ⟨r5, hx_9, h⟩ := bind_some h
 refine AOps.consU fun K' hK' => ?_; simp (disch := omega) only [go_sem, ↓reduceIte]; refine OpT.callRow (r := 1001) (by rfl) (by rfl) (by rfl) (by kernel_rfl) (m_cocketlaw01_ring_ok _ hx_9) (by exact trivial) (by simp only [go_sem, ↓reduceIte]) (by rfl) (by decide) ?_; simp only [go_sem, ↓reduceIte]; refine hK' _ ?_; clear hK' K'
 iterate 1 (refine AOps.consU fun K' hK' => ?_; simp (disch := omega) only [go_sem, ↓reduceIte]; refine hK' _ ?_; clear hK' K')
 refine AOps.nil ?_
 simp only [Post.then]
 refine hK_8 _ ?_
 clear hK_8 K_8
 refine AWp.seq fun K_10 hK_10 => AWp.reg ?_
 obtain ⟨e1, hx_11, h⟩ := bind_some h
 obtain ⟨f_12, f_13, f_14, f_15⟩ := idx_some hx_11
 try simp only [Int.reduceToNat] at f_14 f_15
 iterate 4 (refine AOps.consU fun K' hK' => ?_; simp (disch := omega) only [go_sem, f_14, ↓reduceIte]; refine hK' _ ?_; clear hK' K')
 refine AOps.nil ?_
 simp only [Post.then]
 refine hK_10 _ ?_
 clear hK_10 K_10
 refine AWp.seq fun K_16 hK_16 => AWp.reg ?_
 iterate 1 (refine AOps.consU fun K' hK' => ?_; simp (disch := omega) only [go_sem, ↓reduceIte]; refine hK' _ ?_; clear hK' K')
 refine AOps.sub (τ := ⟨[(1, .d (.imm 2 (lenc Ratio.pd r2.1))), (2, .d (.int .i64 r2.2)), (3, .ptr 1000 0 0), (4, .d (.imm 1 (lenc (PD.int .i64) r4.2.1))), (5, .d (.int .i64 r4.2.2)), (25, .d (.imm 4 (lenc Offer.pd (r5.set 2 (⟨e1.From, e1.To, e1.Num, 2⟩ : Offer)))))], [(1000, ⟨26, 2, [.d (.agg [(.int .i64 r4.1.Num), (.int .i64 r4.1.Den)])]⟩)], [], none⟩) (Sub.cv ⟨rfl, trivial⟩ ⟨.inl ⟨leV_refl _, trivial⟩, .inl ⟨leV_refl _, trivial⟩, .inl ⟨leV_refl _, rfl⟩, .inl ⟨leV_refl _, trivial⟩, .inl ⟨leV_refl _, trivial⟩, .inr ⟨_, frz_row rfl (by simp only [List.length_append, List.length_set, List.length_replicate, List.length_cons, List.length_nil, Nat.zero_add]), leV_refl _, rows_slc rfl⟩, trivial⟩ ⟨⟨trivial, trivial⟩, trivial⟩ ⟨rfl, trivial, rfl⟩) ?_
 obtain ⟨r6, hx_17, h⟩ := bind_some h
 refine AOps.consU fun K' hK' => ?_; simp (disch := omega) only [go_sem, ↓reduceIte]; refine OpT.call (by rfl) (by rfl) (by kernel_rfl) (m_rate_Round_ok 3 (r5.set 2 (⟨e1.From, e1.To, e1.Num, 2⟩ : Offer)) _ hx_17) (by exact ⟨rfl, rfl, trivial⟩) (by simp only [go_sem, ↓reduceIte]) ?_ (by simp only [go_sem]); simp only [go_sem, ↓reduceIte]; refine hK' _ ?_; clear hK' K'
 iterate 5 (refine AOps.consU fun K' hK' => ?_; simp (disch := omega) only [go_sem, ↓reduceIte]; refine hK' _ ?_; clear hK' K')
 refine AOps.nil ?_
 simp only [Post.then]
 refine hK_16 _ ?_
 clear hK_16 K_16
 refine AWp.seq fun K_18 hK_18 => AWp.reg ?_
 iterate 3 (refine AOps.consU fun K' hK' => ?_; simp (disch := omega) only [go_sem, ↓reduceIte]; refine hK' _ ?_; clear hK' K')
 refine AOps.cut 4 (⟨[(1, .d (.imm 2 (lenc Ratio.pd r2.1))), (3, .ptr 1000 0 0), (4, .d (.imm 1 (lenc (PD.int .i64) r4.2.1))), (5, .d (.int .i64 r4.2.2)), (7, .d (.imm 1 (lenc (PD.int .i64) r6.1))), (8, .d (.int .i64 r6.2)), (35, .d (.bool ((decide (r2.2 = 0)) && (decide ((r2.1.length : Int) = 3)))))], [(1000, ⟨26, 2, [.d (.agg [(.int .i64 r4.1.Num), (.int .i64 r4.1.Den)])]⟩)], [], none⟩) ?_ ?_
 ·simp only [List.take_succ_cons, List.take_zero]
  rcases Bool.eq_false_or_eq_true (decide (r2.2 = 0)) with hg_20 | hg_20
  ·rw [hg_20]
   iterate 4 (refine AOps.consU fun K' hK' => ?_; simp (disch := omega) only [go_sem, ↓reduceIte]; refine hK' _ ?_; clear hK' K')
   refine AOps.nil ?_
   exact (Sub.mk ⟨rfl, rfl, rfl, rfl, rfl, rfl, rfl, trivial⟩ ⟨rfl, trivial⟩ ⟨trivial, rfl, trivial, trivial, trivial, trivial, trivial, trivial⟩ ⟨⟨trivial, trivial⟩, trivial⟩ ⟨rfl, trivial, rfl⟩)
  ·rw [hg_20]
   iterate 4 (refine AOps.consU fun K' hK' => ?_; simp (disch := omega) only [go_sem, ↓reduceIte]; refine hK' _ ?_; clear hK' K')
   refine AOps.nil ?_
   exact (Sub.mk ⟨rfl, rfl, rfl, rfl, rfl, rfl, rfl, trivial⟩ ⟨rfl, trivial⟩ ⟨trivial, rfl, trivial, trivial, trivial, trivial, trivial, trivial⟩ ⟨⟨trivial, trivial⟩, trivial⟩ ⟨rfl, trivial, rfl⟩)
 simp only [List.drop_succ_cons, List.drop_zero]
 iterate 1 (refine AOps.consU fun K' hK' => ?_; simp (disch := omega) only [go_sem, ↓reduceIte]; refine hK' _ ?_; clear hK' K')
 obtain ⟨b1, hc_21, h⟩ := bind_some h
 refine AOps.cut 6 (⟨[(3, .ptr 1000 0 0), (4, .d (.imm 1 (lenc (PD.int .i64) r4.2.1))), (5, .d (.int .i64 r4.2.2)), (7, .d (.imm 1 (lenc (PD.int .i64) r6.1))), (8, .d (.int .i64 r6.2)), (42, .d (.bool b1))], [(1000, ⟨26, 2, [.d (.agg [(.int .i64 r4.1.Num), (.int .i64 r4.1.Den)])]⟩)], [], none⟩) ?_ ?_
 ·simp only [List.take_succ_cons, List.take_zero]
  rcases Bool.eq_false_or_eq_true ((decide (r2.2 = 0)) && (decide ((r2.1.length : Int) = 3))) with hg_27 | hg_27
  ·rw [hg_27]
   rw [hg_27, cond_true] at hc_21
   obtain ⟨e2, hx_22, hc_21⟩ := bind_some hc_21
   obtain ⟨f_23, f_24, f_25, f_26⟩ := idx_some hx_22
   try simp only [Int.reduceToNat] at f_25 f_26
   iterate 4 (refine AOps.consU fun K' hK' => ?_; simp (disch := omega) only [go_sem, f_25, ↓reduceIte]; refine hK' _ ?_; clear hK' K')
   refine AOps.consX fun K' hK' => ?_; simp (disch := omega) only [go_sem, f_25, fsl26, ↓reduceIte]; refine hK' _ ?_; clear hK' K'
   iterate 1 (refine AOps.consU fun K' hK' => ?_; simp (disch := omega) only [go_sem, f_25, ↓reduceIte]; refine hK' _ ?_; clear hK' K')
   refine AOps.nil ?_
   have hc_21 := Option.some.inj hc_21
   subst hc_21
   exact (Sub.mk ⟨rfl, rfl, rfl, rfl, rfl, rfl, trivial⟩ ⟨rfl, trivial⟩ ⟨rfl, trivial, trivial, trivial, trivial, trivial, trivial⟩ ⟨⟨trivial, trivial⟩, trivial⟩ ⟨rfl, trivial, rfl⟩)
  ·rw [hg_27]
   rw [hg_27, cond_false] at hc_21
   iterate 6 (refine AOps.consU fun K' hK' => ?_; simp (disch := omega) only [go_sem, ↓reduceIte]; refine hK' _ ?_; clear hK' K')
   refine AOps.nil ?_
   have hc_21 := Option.some.inj hc_21
   subst hc_21
   exact (Sub.mk ⟨rfl, rfl, rfl, rfl, rfl, rfl, trivial⟩ ⟨rfl, trivial⟩ ⟨rfl, trivial, trivial, trivial, trivial, trivial, trivial⟩ ⟨⟨trivial, trivial⟩, trivial⟩ ⟨rfl, trivial, rfl⟩)
 simp only [List.drop_succ_cons, List.drop_zero]
 iterate 1 (refine AOps.consU fun K' hK' => ?_; simp (disch := omega) only [go_sem, ↓reduceIte]; refine hK' _ ?_; clear hK' K')
 refine AOps.cut 3 (⟨[(3, .ptr 1000 0 0), (4, .d (.imm 1 (lenc (PD.int .i64) r4.2.1))), (7, .d (.imm 1 (lenc (PD.int .i64) r6.1))), (8, .d (.int .i64 r6.2)), (46, .d (.bool (b1 && (decide (r4.2.2 = 0)))))], [(1000, ⟨26, 2, [.d (.agg [(.int .i64 r4.1.Num), (.int .i64 r4.1.Den)])]⟩)], [], none⟩) ?_ ?_
 ·simp only [List.take_succ_cons, List.take_zero]
  rcases Bool.eq_false_or_eq_true b1 with hg_29 | hg_29
  ·rw [hg_29]
   iterate 3 (refine AOps.consU fun K' hK' => ?_; simp (disch := omega) only [go_sem, ↓reduceIte]; refine hK' _ ?_; clear hK' K')
   refine AOps.nil ?_
   exact (Sub.mk ⟨rfl, rfl, rfl, rfl, rfl, trivial⟩ ⟨rfl, trivial⟩ ⟨rfl, trivial, trivial, trivial, trivial, trivial⟩ ⟨⟨trivial, trivial⟩, trivial⟩ ⟨rfl, trivial, rfl⟩)
  ·rw [hg_29]
   iterate 3 (refine AOps.consU fun K' hK' => ?_; simp (disch := omega) only [go_sem, ↓reduceIte]; refine hK' _ ?_; clear hK' K')
   refine AOps.nil ?_
   exact (Sub.mk ⟨rfl, rfl, rfl, rfl, rfl, trivial⟩ ⟨rfl, trivial⟩ ⟨rfl, trivial, trivial, trivial, trivial, trivial⟩ ⟨⟨trivial, trivial⟩, trivial⟩ ⟨rfl, trivial, rfl⟩)
 simp only [List.drop_succ_cons, List.drop_zero]
 iterate 1 (refine AOps.consU fun K' hK' => ?_; simp (disch := omega) only [go_sem, ↓reduceIte]; refine hK' _ ?_; clear hK' K')
 refine AOps.cut 4 (⟨[(4, .d (.imm 1 (lenc (PD.int .i64) r4.2.1))), (7, .d (.imm 1 (lenc (PD.int .i64) r6.1))), (8, .d (.int .i64 r6.2)), (51, .d (.bool ((b1 && (decide (r4.2.2 = 0))) && ((r4.1.Num == 3) && (r4.1.Den == 1)))))], [], [], none⟩) ?_ ?_
 ·simp only [List.take_succ_cons, List.take_zero]
  rcases Bool.eq_false_or_eq_true (b1 && (decide (r4.2.2 = 0))) with hg_31 | hg_31
  ·rw [hg_31]
   iterate 2 (refine AOps.consU fun K' hK' => ?_; simp (disch := omega) only [go_sem, ↓reduceIte]; refine hK' _ ?_; clear hK' K')
   refine AOps.consX fun K' hK' => ?_; simp (disch := omega) only [go_sem, fsl26, ↓reduceIte]; refine hK' _ ?_; clear hK' K'
   iterate 1 (refine AOps.consU fun K' hK' => ?_; simp (disch := omega) only [go_sem, ↓reduceIte]; refine hK' _ ?_; clear hK' K')
   refine AOps.nil ?_
   exact (Sub.mk ⟨rfl, rfl, rfl, rfl, trivial⟩ trivial ⟨trivial, trivial, trivial, trivial, trivial⟩ trivial ⟨rfl, trivial, rfl⟩)
  ·rw [hg_31]
   iterate 4 (refine AOps.consU fun K' hK' => ?_; simp (disch := omega) only [go_sem, ↓reduceIte]; refine hK' _ ?_; clear hK' K')
   refine AOps.nil ?_
   exact (Sub.mk ⟨rfl, rfl, rfl, rfl, trivial⟩ trivial ⟨trivial, trivial, trivial, trivial, trivial⟩ trivial ⟨rfl, trivial, rfl⟩)
 simp only [List.drop_succ_cons, List.drop_zero]
 iterate 1 (refine AOps.consU fun K' hK' => ?_; simp (disch := omega) only [go_sem, ↓reduceIte]; refine hK' _ ?_; clear hK' K')
 refine AOps.cut 4 (⟨[(7, .d (.imm 1 (lenc (PD.int .i64) r6.1))), (8, .d (.int .i64 r6.2)), (56, .d (.bool (((b1 && (decide (r4.2.2 = 0))) && ((r4.1.Num == 3) && (r4.1.Den == 1))) && (decide ((r4.2.1.length : Int) = 2)))))], [], [], none⟩) ?_ ?_
 ·simp only [List.take_succ_cons, List.take_zero]
  rcases Bool.eq_false_or_eq_true ((b1 && (decide (r4.2.2 = 0))) && ((r4.1.Num == 3) && (r4.1.Den == 1))) with hg_33 | hg_33
  ·rw [hg_33]
   iterate 4 (refine AOps.consU fun K' hK' => ?_; simp (disch := omega) only [go_sem, ↓reduceIte]; refine hK' _ ?_; clear hK' K')
   refine AOps.nil ?_
   exact (Sub.mk ⟨rfl, rfl, rfl, trivial⟩ trivial ⟨trivial, trivial, trivial, trivial⟩ trivial ⟨rfl, trivial, rfl⟩)
  ·rw [hg_33]
   iterate 4 (refine AOps.consU fun K' hK' => ?_; simp (disch := omega) only [go_sem, ↓reduceIte]; refine hK' _ ?_; clear hK' K')
   refine AOps.nil ?_
   exact (Sub.mk ⟨rfl, rfl, rfl, trivial⟩ trivial ⟨trivial, trivial, trivial, trivial⟩ trivial ⟨rfl, trivial, rfl⟩)
 simp only [List.drop_succ_cons, List.drop_zero]
 iterate 1 (refine AOps.consU fun K' hK' => ?_; simp (disch := omega) only [go_sem, ↓reduceIte]; refine hK' _ ?_; clear hK' K')
 refine AOps.cut 3 (⟨[(7, .d (.imm 1 (lenc (PD.int .i64) r6.1))), (60, .d (.bool ((((b1 && (decide (r4.2.2 = 0))) && ((r4.1.Num == 3) && (r4.1.Den == 1))) && (decide ((r4.2.1.length : Int) = 2))) && (decide (r6.2 = 0)))))], [], [], none⟩) ?_ ?_
 ·simp only [List.take_succ_cons, List.take_zero]
  rcases Bool.eq_false_or_eq_true (((b1 && (decide (r4.2.2 = 0))) && ((r4.1.Num == 3) && (r4.1.Den == 1))) && (decide ((r4.2.1.length : Int) = 2))) with hg_35 | hg_35
  ·rw [hg_35]
   iterate 3 (refine AOps.consU fun K' hK' => ?_; simp (disch := omega) only [go_sem, ↓reduceIte]; refine hK' _ ?_; clear hK' K')
   refine AOps.nil ?_
   exact (Sub.mk ⟨rfl, rfl, trivial⟩ trivial ⟨trivial, trivial, trivial⟩ trivial ⟨rfl, trivial, rfl⟩)
  ·rw [hg_35]
   iterate 3 (refine AOps.consU fun K' hK' => ?_; simp (disch := omega) only [go_sem, ↓reduceIte]; refine hK' _ ?_; clear hK' K')
   refine AOps.nil ?_
   exact (Sub.mk ⟨rfl, rfl, trivial⟩ trivial ⟨trivial, trivial, trivial⟩ trivial ⟨rfl, trivial, rfl⟩)
 simp only [List.drop_succ_cons, List.drop_zero]
 iterate 1 (refine AOps.consU fun K' hK' => ?_; simp (disch := omega) only [go_sem, ↓reduceIte]; refine hK' _ ?_; clear hK' K')
 obtain ⟨b2, hc_36, h⟩ := bind_some h
 refine AOps.cut 4 (⟨[(65, .d (.bool b2))], [], [], none⟩) ?_ ?_
 ·simp only [List.take_succ_cons, List.take_zero]
  rcases Bool.eq_false_or_eq_true ((((b1 && (decide (r4.2.2 = 0))) && ((r4.1.Num == 3) && (r4.1.Den == 1))) && (decide ((r4.2.1.length : Int) = 2))) && (decide (r6.2 = 0))) with hg_38 | hg_38
  ·rw [hg_38]
   rw [hg_38, cond_true] at hc_36
   iterate 1 (refine AOps.consU fun K' hK' => ?_; simp (disch := omega) only [go_sem, ↓reduceIte]; refine hK' _ ?_; clear hK' K')
   refine AOps.consL fun K' hK' => ?_; simp (disch := omega) only [go_sem, ↓reduceIte]; refine hK' _ ?_; clear hK' K'
   obtain ⟨r7, hx_37, hc_36⟩ := bind_some hc_36
   refine AOps.consU fun K' hK' => ?_; simp (disch := omega) only [go_sem, ↓reduceIte]; refine OpT.call (by rfl) (by rfl) (by kernel_rfl) (m_cocketlaw01_same_ok r6.1 [0, 1, 2] _ hx_37) (by exact ⟨rfl, rfl, trivial⟩) (by simp only [go_sem, ↓reduceIte]) ?_ (by simp only [go_sem]); simp only [go_sem, ↓reduceIte]; refine hK' _ ?_; clear hK' K'
   iterate 1 (refine AOps.consU fun K' hK' => ?_; simp (disch := omega) only [go_sem, ↓reduceIte]; refine hK' _ ?_; clear hK' K')
   refine AOps.nil ?_
   have hc_36 := Option.some.inj hc_36
   subst hc_36
   exact (Sub.mk ⟨rfl, trivial⟩ trivial ⟨trivial, trivial⟩ trivial ⟨rfl, trivial, rfl⟩)
  ·rw [hg_38]
   rw [hg_38, cond_false] at hc_36
   iterate 4 (refine AOps.consU fun K' hK' => ?_; simp (disch := omega) only [go_sem, ↓reduceIte]; refine hK' _ ?_; clear hK' K')
   refine AOps.nil ?_
   have hc_36 := Option.some.inj hc_36
   subst hc_36
   exact (Sub.mk ⟨rfl, trivial⟩ trivial ⟨trivial, trivial⟩ trivial ⟨rfl, trivial, rfl⟩)
 simp only [List.drop_succ_cons, List.drop_zero]
 iterate 1 (refine AOps.consU fun K' hK' => ?_; simp (disch := omega) only [go_sem, ↓reduceIte]; refine hK' _ ?_; clear hK' K')
 refine AOps.nil ?_
 simp only [Post.then]
 refine hK_18 _ ?_
 clear hK_18 K_18
 refine AWp.ret ?_
 simp only [Post.then, Post.inBlock, Go.Pv.Fin, Go.Pv.FinG]
 rw [← Option.some.inj h]
 refine ⟨.d (.bool b2), ?_, (by first | exact True.intro | rfl), .d (.bool b2), ?_, ?_⟩
 ·simp only [go_sem, Tryd.results18, List.length_append, List.length_set, List.length_replicate, ↓reduceIte]
 ·simp only [go_sem, lenc_nil, List.take_length, List.length_append, List.length_set, List.length_replicate, ↓reduceIte]
 ·(first | exact leV_refl _ | (simp only [go_sem, leV, leVL, leD, leDL, lenc_nil, leD_refl, leDL_refl, lstD_le, ↓reduceIte]; done))
end Go.Pv.Tryd

namespace Go.Pv.Tryd
open Go.Proofs Go.Pv
theorem m_cocketref01_Good_ok (n1 : Int) (l1 : (List Offer)) (r : Int) (h : m_cocketref01_Good n1 l1 = some r) : PureFn Tryd.prog G 28 [.d (.int .i64 n1), .d (.imm 4 (lenc Offer.pd l1))] (.d (.int .i64 r)) := by
 unfold m_cocketref01_Good at h
 refine PureFn.intro2 Tryd.func28 (by rfl) (by rw [Tryd.ntmps28]; simp) ?_
 rw [Tryd.ntmps28]
 simp only [argEnv, reduceCtorEq, ↓reduceIte, Nat.reduceAdd, Nat.reduceMul, Nat.reduceLT, Nat.reduceLeDiff, Nat.reduceEqDiff, Nat.reduceBEq, Int.reduceToNat]
 refine AWp.seq fun K_1 hK_1 => AWp.reg ?_
 iterate 1 (refine AOps.consU fun K' hK' => ?_; simp (disch := omega) only [go_sem, ↓reduceIte]; refine hK' _ ?_; clear hK' K')
 refine AOps.nil ?_
 simp only [Post.then]
 refine hK_1 _ ?_
 clear hK_1 K_1
 refine AWp.seq fun K_2 hK_2 => ?_
 refine AWp.seq fun K_3 hK_3 => AWp.reg ?_
 iterate 3 (refine AOps.consU fun K' hK' => ?_; simp (disch := omega) only [go_sem, ↓reduceIte]; refine hK' _ ?_; clear hK' K')
 refine AOps.cut 3 (⟨[(0, .d (.int .i64 n1)), (1, .d (.imm 4 (lenc Offer.pd l1))), (12, .d (.bool ((decide (n1 < 2)) || (decide (6 < n1)))))], [], [], none⟩) ?_ ?_
 ·simp only [List.take_succ_cons, List.take_zero]
  rcases Bool.eq_false_or_eq_true (decide (n1 < 2)) with hg_5 | hg_5
  ·rw [hg_5]
   iterate 3 (refine AOps.consU fun K' hK' => ?_; simp (disch := omega) only [go_sem, ↓reduceIte]; refine hK' _ ?_; clear hK' K')
   refine AOps.nil ?_
   exact (Sub.mk ⟨rfl, rfl, rfl, trivial⟩ trivial ⟨trivial, trivial, trivial, trivial⟩ trivial ⟨rfl, trivial, rfl⟩)
  ·rw [hg_5]
   iterate 3 (refine AOps.consU fun K' hK' => ?_; simp (disch := omega) only [go_sem, ↓reduceIte]; refine hK' _ ?_; clear hK' K')
   refine AOps.nil ?_
   exact (Sub.mk ⟨rfl, rfl, rfl, trivial⟩ trivial ⟨trivial, trivial, trivial, trivial⟩ trivial ⟨rfl, trivial, rfl⟩)
 simp only [List.drop_succ_cons, List.drop_zero]
 refine AOps.nil ?_
 simp only [Post.then]
 refine hK_3 _ ?_
 clear hK_3 K_3
 refine AWp.cond (b := ((decide (n1 < 2)) || (decide (6 < n1)))) (by rfl) (fun hb_6 => ?_) (fun hb_6 => ?_)
 ·rw [hb_6, cond_true] at h
  refine AWp.seq fun K_7 hK_7 => AWp.reg ?_
  iterate 1 (refine AOps.consU fun K' hK' => ?_; simp (disch := omega) only [go_sem, ↓reduceIte]; refine hK' _ ?_; clear hK' K')
  refine AOps.nil ?_
  simp only [Post.then]
  refine hK_7 _ ?_
  clear hK_7 K_7
  refine AWp.ret ?_
  simp only [Post.then, Post.inBlock, Go.Pv.Fin, Go.Pv.FinG]
  rw [← Option.some.inj h]
  refine ⟨.d (.int .i64 2), ?_, (by first | exact True.intro | rfl), .d (.int .i64 2), ?_, ?_⟩
  ·simp only [go_sem, Tryd.results28, List.length_append, List.length_set, List.length_replicate, ↓reduceIte]
  ·simp only [go_sem, lenc_nil, List.take_length, List.length_append, List.length_set, List.length_replicate, ↓reduceIte]
  ·(first | exact leV_refl _ | (simp only [go_sem, leV, leVL, leD, leDL, lenc_nil, leD_refl, leDL_refl, lstD_le, ↓reduceIte]; done))
 ·rw [hb_6, cond_false] at h
  refine AWp.skip ?_
  simp only [Post.then, Post.inBlock, ↓reduceIte, Nat.reduceEqDiff]
  refine hK_2 _ ?_
  clear hK_2 K_2
  refine AWp.seq fun K_8 hK_8 => ?_
  refine AWp.seq fun K_9 hK_9 => AWp.reg ?_
  iterate 3 (refine AOps.consU fun K' hK' => ?_; simp (disch := omega) only [go_sem, ↓reduceIte]; refine hK' _ ?_; clear hK' K')
  refine AOps.nil ?_
  simp only [Post.then]
  refine hK_9 _ ?_
  clear hK_9 K_9
  refine AWp.cond (b := (decide (40 < (l1.length : Int)))) (by rfl) (fun hb_10 => ?_) (fun hb_10 => ?_)
  ·rw [hb_10, cond_true] at h
   refine AWp.seq fun K_11 hK_11 => AWp.reg ?_
   iterate 1 (refine AOps.consU fun K' hK' => ?_; simp (disch := omega) only [go_sem, ↓reduceIte]; refine hK' _ ?_; clear hK' K')
   refine AOps.nil ?_
   simp only [Post.then]
   refine hK_11 _ ?_
   clear hK_11 K_11
   refine AWp.ret ?_
   simp only [Post.then, Post.inBlock, Go.Pv.Fin, Go.Pv.FinG]
   rw [← Option.some.inj h]
   refine ⟨.d (.int .i64 3), ?_, (by first | exact True.intro | rfl), .d (.int .i64 3), ?_, ?_⟩
   ·simp only [go_sem, Tryd.results28, List.length_append, List.length_set, List.length_replicate, ↓reduceIte]
   ·simp only [go_sem, lenc_nil, List.take_length, List.length_append, List.length_set, List.length_replicate, ↓reduceIte]
   ·(first | exact leV_refl _ | (simp only [go_sem, leV, leVL, leD, leDL, lenc_nil, leD_refl, leDL_refl, lstD_le, ↓reduceIte]; done))
  ·rw [hb_10, cond_false] at h
   refine AWp.skip ?_
   simp only [Post.then, Post.inBlock, ↓reduceIte, Nat.reduceEqDiff]
   refine hK_8 _ ?_
   clear hK_8 K_8
   obtain ⟨o_12, hj_13, h⟩ := bind_some h
   refine AWp.seqI (fun i_53 : Unit => ⟨[], [], [], none⟩) (fun i_53 => o_12 = (.inl i_53)) ?_ ?_
   ·refine AWp.seq fun K_14 hK_14 => AWp.reg ?_
    iterate 1 (refine AOps.consU fun K' hK' => ?_; simp (disch := omega) only [go_sem, ↓reduceIte]; refine hK' _ ?_; clear hK' K')
    refine AOps.nil ?_
    simp only [Post.then]
    refine hK_14 _ ?_
    clear hK_14 K_14
    refine AWp.block ?_
    obtain ⟨x_19, hl_16, h2_17⟩ := bind_some hj_13
    obtain ⟨n_15, hl_16⟩ := iter_some hl_16
    refine AWp.loopI (fun i_51 : Nat × Int => ⟨[(0, .d (.int .i64 n1)), (1, .d (.imm 4 (lenc Offer.pd l1))), (5, .d (.int .i64 i_51.2))], [], [], none⟩) (fun i_51 => iterN (m_cocketref01_Good_l1 n1 l1) i_51.1 i_51.2 = some x_19) (fun i_51 => i_51.1) (n_15, 0) hl_16 (Sub.mk ⟨rfl, rfl, rfl, trivial⟩ trivial ⟨trivial, trivial, trivial, trivial⟩ trivial ⟨rfl, trivial, rfl⟩) ?_
    clear hl_16
    rintro ⟨n_15, i1⟩ hl_16
    try dsimp only at hl_16
    try dsimp only
    cases n_15 with
    | zero => cases hl_16
    | succ n_15 =>
     rw [iterN_succ] at hl_16
     obtain ⟨ob_20, hb_18, hl_16⟩ := bind_some hl_16
     unfold m_cocketref01_Good_l1 at hb_18
     try dsimp only at hb_18
     refine AWp.seq fun K_21 hK_21 => ?_
     refine AWp.seq fun K_22 hK_22 => AWp.reg ?_
     iterate 4 (refine AOps.consU fun K' hK' => ?_; simp (disch := omega) only [go_sem, ↓reduceIte]; refine hK' _ ?_; clear hK' K')
     refine AOps.nil ?_
     simp only [Post.then]
     refine hK_22 _ ?_
     clear hK_22 K_22
     refine AWp.cond (b := (decide (i1 < (l1.length : Int)))) (by rfl) (fun hb_23 => ?_) (fun hb_23 => ?_)
     ·rw [hb_23, cond_true] at hb_18
      refine AWp.skip ?_
      simp only [Post.then, Post.inBlock, ↓reduceIte, Nat.reduceEqDiff]
      refine hK_21 _ ?_
      clear hK_21 K_21
      refine AWp.seq fun K_24 hK_24 => ?_
      refine AWp.block ?_
      refine AWp.seq fun K_25 hK_25 => AWp.reg ?_
      obtain ⟨e1, hx_26, hb_18⟩ := bind_some hb_18
      obtain ⟨f_27, f_28, f_29, f_30⟩ := idx_some hx_26
      iterate 6 (refine AOps.consU fun K' hK' => ?_; simp (disch := omega) only [go_sem, f_29, ↓reduceIte]; refine hK' _ ?_; clear hK' K')
      refine AOps.nil ?_
      simp only [Post.then]
      refine hK_25 _ ?_
      clear hK_25 K_25
      refine AWp.seq fun K_31 hK_31 => AWp.reg ?_
      iterate 4 (refine AOps.consU fun K' hK' => ?_; simp (disch := omega) only [go_sem, ↓reduceIte]; refine hK' _ ?_; clear hK' K')
      refine AOps.cut 5 (⟨[(0, .d (.int .i64 n1)), (1, .d (.imm 4 (lenc Offer.pd l1))), (5, .d (.int .i64 i1)), (6, .ptr 1000 0 0), (34, .d (.bool ((decide (e1.From < 0)) || (decide (n1 ≤ e1.From)))))], [(1000, ⟨43, 4, [.d (.agg [(.int .i64 e1.From), (.int .i64 e1.To), (.int .i64 e1.Num), (.int .i64 e1.Den)])]⟩)], [], none⟩) ?_ ?_
      ·simp only [List.take_succ_cons, List.take_zero]
       rcases Bool.eq_false_or_eq_true (decide (e1.From < 0)) with hg_33 | hg_33
       ·rw [hg_33]
        iterate 5 (refine AOps.consU fun K' hK' => ?_; simp (disch := omega) only [go_sem, ↓reduceIte]; refine hK' _ ?_; clear hK' K')
        refine AOps.nil ?_
        exact (Sub.mk ⟨rfl, rfl, rfl, rfl, rfl, trivial⟩ ⟨rfl, trivial⟩ ⟨trivial, trivial, trivial, rfl, trivial, trivial⟩ ⟨⟨trivial, trivial⟩, trivial⟩ ⟨rfl, trivial, rfl⟩)
       ·rw [hg_33]
        iterate 5 (refine AOps.consU fun K' hK' => ?_; simp (disch := omega) only [go_sem, ↓reduceIte]; refine hK' _ ?_; clear hK' K')
        refine AOps.nil ?_
        exact (Sub.mk ⟨rfl, rfl, rfl, rfl, rfl, trivial⟩ ⟨rfl, trivial⟩ ⟨trivial, trivial, trivial, rfl, trivial, trivial⟩ ⟨⟨trivial, trivial⟩, trivial⟩ ⟨rfl, trivial, rfl⟩)
      simp only [List.drop_succ_cons, List.drop_zero]
      iterate 1 (refine AOps.consU fun K' hK' => ?_; simp (disch := omega) only [go_sem, ↓reduceIte]; refine hK' _ ?_; clear hK' K')
      refine AOps.cut 4 (⟨[(0, .d (.int .i64 n1)), (1, .d (.imm 4 (lenc Offer.pd l1))), (5, .d (.int .i64 i1)), (6, .ptr 1000 0 0), (39, .d (.bool (((decide (e1.From < 0)) || (decide (n1 ≤ e1.From))) || (decide (e1.To < 0)))))], [(1000, ⟨43, 4, [.d (.agg [(.int .i64 e1.From), (.int .i64 e1.To), (.int .i64 e1.Num), (.int .i64 e1.Den)])]⟩)], [], none⟩) ?_ ?_
      ·simp only [List.take_succ_cons, List.take_zero]
       rcases Bool.eq_false_or_eq_true ((decide (e1.From < 0)) || (decide (n1 ≤ e1.From))) with hg_35 | hg_35
       ·rw [hg_35]
        iterate 4 (refine AOps.consU fun K' hK' => ?_; simp (disch := omega) only [go_sem, ↓reduceIte]; refine hK' _ ?_; clear hK' K')
        refine AOps.nil ?_
        exact (Sub.mk ⟨rfl, rfl, rfl, rfl, rfl, trivial⟩ ⟨rfl, trivial⟩ ⟨trivial, trivial, trivial, rfl, trivial, trivial⟩ ⟨⟨trivial, trivial⟩, trivial⟩ ⟨rfl, trivial, rfl⟩)
       ·rw [hg_35]
        iterate 4 (refine AOps.consU fun K' hK' => ?_; simp (disch := omega) only [go_sem, ↓reduceIte]; refine hK' _ ?_; clear hK' K')
        refine AOps.nil ?_
        exact (Sub.mk ⟨rfl, rfl, rfl, rfl, rfl, trivial⟩ ⟨rfl, trivial⟩ ⟨trivial, trivial, trivial, rfl, trivial, trivial⟩ ⟨⟨trivial, trivial⟩, trivial⟩ ⟨rfl, trivial, rfl⟩)
      simp only [List.drop_succ_cons, List.drop_zero]
      iterate 1 (refine AOps.consU fun K' hK' => ?_; simp (disch := omega) only [go_sem, ↓reduceIte]; refine hK' _ ?_; clear hK' K')
      refine AOps.cut 5 (⟨[(0, .d (.int .i64 n1)), (1, .d (.imm 4 (lenc Offer.pd l1))), (5, .d (.int .i64 i1)), (6, .ptr 1000 0 0), (45, .d (.bool ((((decide (e1.From < 0)) || (decide (n1 ≤ e1.From))) || (decide (e1.To < 0))) || (decide (n1 ≤ e1.To)))))], [(1000, ⟨43, 4, [.d (.agg [(.int .i64 e1.From), (.int .i64 e1.To), (.int .i64 e1.Num), (.int .i64 e1.Den)])]⟩)], [], none⟩) ?_ ?_
      ·simp only [List.take_succ_cons, List.take_zero]
       rcases Bool.eq_false_or_eq_true (((decide (e1.From < 0)) || (decide (n1 ≤ e1.From))) || (decide (e1.To < 0))) with hg_37 | hg_37
       ·rw [hg_37]
        iterate 5 (refine AOps.consU fun K' hK' => ?_; simp (disch := omega) only [go_sem, ↓reduceIte]; refine hK' _ ?_; clear hK' K')
        refine AOps.nil ?_
        exact (Sub.mk ⟨rfl, rfl, rfl, rfl, rfl, trivial⟩ ⟨rfl, trivial⟩ ⟨trivial, trivial, trivial, rfl, trivial, trivial⟩ ⟨⟨trivial, trivial⟩, trivial⟩ ⟨rfl, trivial, rfl⟩)
       ·rw [hg_37]
        iterate 5 (refine AOps.consU fun K' hK' => ?_; simp (disch := omega) only [go_sem, ↓reduceIte]; refine hK' _ ?_; clear hK' K')
        refine AOps.nil ?_
        exact (Sub.mk ⟨rfl, rfl, rfl, rfl, rfl, trivial⟩ ⟨rfl, trivial⟩ ⟨trivial, trivial, trivial, rfl, trivial, trivial⟩ ⟨⟨trivial, trivial⟩, trivial⟩ ⟨rfl, trivial, rfl⟩)
      simp only [List.drop_succ_cons, List.drop_zero]
      iterate 1 (refine AOps.consU fun K' hK' => ?_; simp (disch := omega) only [go_sem, ↓reduceIte]; refine hK' _ ?_; clear hK' K')
      refine AOps.cut 6 (⟨[(0, .d (.int .i64 n1)), (1, .d (.imm 4 (lenc Offer.pd l1))), (5, .d (.int .i64 i1)), (6, .ptr 1000 0 0), (52, .d (.bool (((((decide (e1.From < 0)) || (decide (n1 ≤ e1.From))) || (decide (e1.To < 0))) || (decide (n1 ≤ e1.To))) || (decide (e1.From = e1.To)))))], [(1000, ⟨43, 4, [.d (.agg [(.int .i64 e1.From), (.int .i64 e1.To), (.int .i64 e1.Num), (.int .i64 e1.Den)])]⟩)], [], none⟩) ?_ ?_
      ·simp only [List.take_succ_cons, List.take_zero]
       rcases Bool.eq_false_or_eq_true ((((decide (e1.From < 0)) || (decide (n1 ≤ e1.From))) || (decide (e1.To < 0))) || (decide (n1 ≤ e1.To))) with hg_39 | hg_39
       ·rw [hg_39]
        iterate 6 (refine AOps.consU fun K' hK' => ?_; simp (disch := omega) only [go_sem, ↓reduceIte]; refine hK' _ ?_; clear hK' K')
        refine AOps.nil ?_
        exact (Sub.mk ⟨rfl, rfl, rfl, rfl, rfl, trivial⟩ ⟨rfl, trivial⟩ ⟨trivial, trivial, trivial, rfl, trivial, trivial⟩ ⟨⟨trivial, trivial⟩, trivial⟩ ⟨rfl, trivial, rfl⟩)
       ·rw [hg_39]
        iterate 6 (refine AOps.consU fun K' hK' => ?_; simp (disch := omega) only [go_sem, ↓reduceIte]; refine hK' _ ?_; clear hK' K')
        refine AOps.nil ?_
        exact (Sub.mk ⟨rfl, rfl, rfl, rfl, rfl, trivial⟩ ⟨rfl, trivial⟩ ⟨trivial, trivial, trivial, rfl, trivial, trivial⟩ ⟨⟨trivial, trivial⟩, trivial⟩ ⟨rfl, trivial, rfl⟩)
      simp only [List.drop_succ_cons, List.drop_zero]
      iterate 1 (refine AOps.consU fun K' hK' => ?_; simp (disch := omega) only [go_sem, ↓reduceIte]; refine hK' _ ?_; clear hK' K')
      refine AOps.cut 4 (⟨[(0, .d (.int .i64 n1)), (1, .d (.imm 4 (lenc Offer.pd l1))), (5, .d (.int .i64 i1)), (6, .ptr 1000 0 0), (57, .d (.bool ((((((decide (e1.From < 0)) || (decide (n1 ≤ e1.From))) || (decide (e1.To < 0))) || (decide (n1 ≤ e1.To))) || (decide (e1.From = e1.To))) || (decide (e1.Num < 1)))))], [(1000, ⟨43, 4, [.d (.agg [(.int .i64 e1.From), (.int .i64 e1.To), (.int .i64 e1.Num), (.int .i64 e1.Den)])]⟩)], [], none⟩) ?_ ?_
      ·simp only [List.take_succ_cons, List.take_zero]
       rcases Bool.eq_false_or_eq_true (((((decide (e1.From < 0)) || (decide (n1 ≤ e1.From))) || (decide (e1.To < 0))) || (decide (n1 ≤ e1.To))) || (decide (e1.From = e1.To))) with hg_41 | hg_41
       ·rw [hg_41]
        iterate 4 (refine AOps.consU fun K' hK' => ?_; simp (disch := omega) only [go_sem, ↓reduceIte]; refine hK' _ ?_; clear hK' K')
        refine AOps.nil ?_
        exact (Sub.mk ⟨rfl, rfl, rfl, rfl, rfl, trivial⟩ ⟨rfl, trivial⟩ ⟨trivial, trivial, trivial, rfl, trivial, trivial⟩ ⟨⟨trivial, trivial⟩, trivial⟩ ⟨rfl, trivial, rfl⟩)
       ·rw [hg_41]
        iterate 4 (refine AOps.consU fun K' hK' => ?_; simp (disch := omega) only [go_sem, ↓reduceIte]; refine hK' _ ?_; clear hK' K')
        refine AOps.nil ?_
        exact (Sub.mk ⟨rfl, rfl, rfl, rfl, rfl, trivial⟩ ⟨rfl, trivial⟩ ⟨trivial, trivial, trivial, rfl, trivial, trivial⟩ ⟨⟨trivial, trivial⟩, trivial⟩ ⟨rfl, trivial, rfl⟩)
      simp only [List.drop_succ_cons, List.drop_zero]
      iterate 1 (refine AOps.consU fun K' hK' => ?_; simp (disch := omega) only [go_sem, ↓reduceIte]; refine hK' _ ?_; clear hK' K')
      refine AOps.cut 4 (⟨[(0, .d (.int .i64 n1)), (1, .d (.imm 4 (lenc Offer.pd l1))), (5, .d (.int .i64 i1)), (6, .ptr 1000 0 0), (62, .d (.bool (((((((decide (e1.From < 0)) || (decide (n1 ≤ e1.From))) || (decide (e1.To < 0))) || (decide (n1 ≤ e1.To))) || (decide (e1.From = e1.To))) || (decide (e1.Num < 1))) || (decide (50 < e1.Num)))))], [(1000, ⟨43, 4, [.d (.agg [(.int .i64 e1.From), (.int .i64 e1.To), (.int .i64 e1.Num), (.int .i64 e1.Den)])]⟩)], [], none⟩) ?_ ?_
      ·simp only [List.take_succ_cons, List.take_zero]
       rcases Bool.eq_false_or_eq_true ((((((decide (e1.From < 0)) || (decide (n1 ≤ e1.From))) || (decide (e1.To < 0))) || (decide (n1 ≤ e1.To))) || (decide (e1.From = e1.To))) || (decide (e1.Num < 1))) with hg_43 | hg_43
       ·rw [hg_43]
        iterate 4 (refine AOps.consU fun K' hK' => ?_; simp (disch := omega) only [go_sem, ↓reduceIte]; refine hK' _ ?_; clear hK' K')
        refine AOps.nil ?_
        exact (Sub.mk ⟨rfl, rfl, rfl, rfl, rfl, trivial⟩ ⟨rfl, trivial⟩ ⟨trivial, trivial, trivial, rfl, trivial, trivial⟩ ⟨⟨trivial, trivial⟩, trivial⟩ ⟨rfl, trivial, rfl⟩)
       ·rw [hg_43]
        iterate 4 (refine AOps.consU fun K' hK' => ?_; simp (disch := omega) only [go_sem, ↓reduceIte]; refine hK' _ ?_; clear hK' K')
        refine AOps.nil ?_
        exact (Sub.mk ⟨rfl, rfl, rfl, rfl, rfl, trivial⟩ ⟨rfl, trivial⟩ ⟨trivial, trivial, trivial, rfl, trivial, trivial⟩ ⟨⟨trivial, trivial⟩, trivial⟩ ⟨rfl, trivial, rfl⟩)
      simp only [List.drop_succ_cons, List.drop_zero]
      iterate 1 (refine AOps.consU fun K' hK' => ?_; simp (disch := omega) only [go_sem, ↓reduceIte]; refine hK' _ ?_; clear hK' K')
      refine AOps.cut 4 (⟨[(0, .d (.int .i64 n1)), (1, .d (.imm 4 (lenc Offer.pd l1))), (5, .d (.int .i64 i1)), (6, .ptr 1000 0 0), (67, .d (.bool ((((((((decide (e1.From < 0)) || (decide (n1 ≤ e1.From))) || (decide (e1.To < 0))) || (decide (n1 ≤ e1.To))) || (decide (e1.From = e1.To))) || (decide (e1.Num < 1))) || (decide (50 < e1.Num))) || (decide (e1.Den < 1)))))], [(1000, ⟨43, 4, [.d (.agg [(.int .i64 e1.From), (.int .i64 e1.To), (.int .i64 e1.Num), (.int .i64 e1.Den)])]⟩)], [], none⟩) ?_ ?_
      ·simp only [List.take_succ_cons, List.take_zero]
       rcases Bool.eq_false_or_eq_true (((((((decide (e1.From < 0)) || (decide (n1 ≤ e1.From))) || (decide (e1.To < 0))) || (decide (n1 ≤ e1.To))) || (decide (e1.From = e1.To))) || (decide (e1.Num < 1))) || (decide (50 < e1.Num))) with hg_45 | hg_45
       ·rw [hg_45]
        iterate 4 (refine AOps.consU fun K' hK' => ?_; simp (disch := omega) only [go_sem, ↓reduceIte]; refine hK' _ ?_; clear hK' K')
        refine AOps.nil ?_
        exact (Sub.mk ⟨rfl, rfl, rfl, rfl, rfl, trivial⟩ ⟨rfl, trivial⟩ ⟨trivial, trivial, trivial, rfl, trivial, trivial⟩ ⟨⟨trivial, trivial⟩, trivial⟩ ⟨rfl, trivial, rfl⟩)
       ·rw [hg_45]
        iterate 4 (refine AOps.consU fun K' hK' => ?_; simp (disch := omega) only [go_sem, ↓reduceIte]; refine hK' _ ?_; clear hK' K')
        refine AOps.nil ?_
        exact (Sub.mk ⟨rfl, rfl, rfl, rfl, rfl, trivial⟩ ⟨rfl, trivial⟩ ⟨trivial, trivial, trivial, rfl, trivial, trivial⟩ ⟨⟨trivial, trivial⟩, trivial⟩ ⟨rfl, trivial, rfl⟩)
      simp only [List.drop_succ_cons, List.drop_zero]
      iterate 1 (refine AOps.consU fun K' hK' => ?_; simp (disch := omega) only [go_sem, ↓reduceIte]; refine hK' _ ?_; clear hK' K')
      refine AOps.cut 4 (⟨[(0, .d (.int .i64 n1)), (1, .d (.imm 4 (lenc Offer.pd l1))), (5, .d (.int .i64 i1)), (72, .d (.bool (((((((((decide (e1.From < 0)) || (decide (n1 ≤ e1.From))) || (decide (e1.To < 0))) || (decide (n1 ≤ e1.To))) || (decide (e1.From = e1.To))) || (decide (e1.Num < 1))) || (decide (50 < e1.Num))) || (decide (e1.Den < 1))) || (decide (50 < e1.Den)))))], [], [], none⟩) ?_ ?_
      ·simp only [List.take_succ_cons, List.take_zero]
       rcases Bool.eq_false_or_eq_true ((((((((decide (e1.From < 0)) || (decide (n1 ≤ e1.From))) || (decide (e1.To < 0))) || (decide (n1 ≤ e1.To))) || (decide (e1.From = e1.To))) || (decide (e1.Num < 1))) || (decide (50 < e1.Num))) || (decide (e1.Den < 1))) with hg_47 | hg_47
       ·rw [hg_47]
        iterate 4 (refine AOps.consU fun K' hK' => ?_; simp (disch := omega) only [go_sem, ↓reduceIte]; refine hK' _ ?_; clear hK' K')
        refine AOps.nil ?_
        exact (Sub.mk ⟨rfl, rfl, rfl, rfl, trivial⟩ trivial ⟨trivial, trivial, trivial, trivial, trivial⟩ trivial ⟨rfl, trivial, rfl⟩)
       ·rw [hg_47]
        iterate 4 (refine AOps.consU fun K' hK' => ?_; simp (disch := omega) only [go_sem, ↓reduceIte]; refine hK' _ ?_; clear hK' K')
        refine AOps.nil ?_
        exact (Sub.mk ⟨rfl, rfl, rfl, rfl, trivial⟩ trivial ⟨trivial, trivial, trivial, trivial, trivial⟩ trivial ⟨rfl, trivial, rfl⟩)
      simp only [List.drop_succ_cons, List.drop_zero]
      refine AOps.nil ?_
      simp only [Post.then]
      refine hK_31 _ ?_
      clear hK_31 K_31
      refine AWp.cond (b := (((((((((decide (e1.From < 0)) || (decide (n1 ≤ e1.From))) || (decide (e1.To < 0))) || (decide (n1 ≤ e1.To))) || (decide (e1.From = e1.To))) || (decide (e1.Num < 1))) || (decide (50 < e1.Num))) || (decide (e1.Den < 1))) || (decide (50 < e1.Den)))) (by rfl) (fun hb_48 => ?_) (fun hb_48 => ?_)
      ·rw [hb_48, cond_true] at hb_18
       refine AWp.seq fun K_49 hK_49 => AWp.reg ?_
       iterate 1 (refine AOps.consU fun K' hK' => ?_; simp (disch := omega) only [go_sem, ↓reduceIte]; refine hK' _ ?_; clear hK' K')
       refine AOps.nil ?_
       simp only [Post.then]
       refine hK_49 _ ?_
       clear hK_49 K_49
       refine AWp.ret ?_
       simp only [Post.then, Post.inBlock, Go.Pv.Fin, Go.Pv.FinG]
       rw [← Option.some.inj hb_18] at hl_16
       try dsimp only at hl_16
       rw [← Option.some.inj hl_16] at h2_17
       try dsimp only at h2_17
       rw [← Option.some.inj h2_17] at h
       try dsimp only at h
       rw [← Option.some.inj h]
       refine ⟨.d (.int .i64 2), ?_, (by first | exact True.intro | rfl), .d (.int .i64 2), ?_, ?_⟩
       ·simp only [go_sem, Tryd.results28, List.length_append, List.length_set, List.length_replicate, ↓reduceIte]
       ·simp only [go_sem, lenc_nil, List.take_length, List.length_append, List.length_set, List.length_replicate, ↓reduceIte]
       ·(first | exact leV_refl _ | (simp only [go_sem, leV, leVL, leD, leDL, lenc_nil, leD_refl, leDL_refl, lstD_le, ↓reduceIte]; done))
      ·rw [hb_48, cond_false] at hb_18
       refine AWp.skip ?_
       simp only [Post.then, Post.inBlock, ↓reduceIte, Nat.reduceEqDiff]
       refine hK_24 _ ?_
       clear hK_24 K_24
       refine AWp.reg ?_
       iterate 3 (refine AOps.consU fun K' hK' => ?_; simp (disch := omega) only [go_sem, ↓reduceIte]; refine hK' _ ?_; clear hK' K')
       refine AOps.nil ?_
       simp only [Post.then, Post.inBlock, ↓reduceIte, Nat.reduceEqDiff]
       rw [← Option.some.inj hb_18] at hl_16
       try dsimp only at hl_16
       exact ⟨(n_15, (IntKind.i64.wrap (i1 + 1))), hl_16, Nat.lt_succ_self n_15, (Sub.mk ⟨rfl, rfl, rfl, trivial⟩ trivial ⟨trivial, trivial, trivial, trivial⟩ trivial ⟨rfl, trivial, rfl⟩)⟩
     ·rw [hb_23, cond_false] at hb_18
      refine AWp.exit ?_
      simp only [Post.then, Post.inBlock, ↓reduceIte, Nat.reduceEqDiff]
      rw [← Option.some.inj hb_18] at hl_16
      try dsimp only at hl_16
      rw [← Option.some.inj hl_16] at h2_17
      try dsimp only at h2_17
      exact ⟨(), (Option.some.inj h2_17).symm, (Sub.mk trivial trivial trivial trivial ⟨rfl, trivial, rfl⟩)⟩
   ·rintro _ hx_54
    rw [hx_54] at h
    try dsimp only at h
    try dsimp only
    refine AWp.seq fun K_52 hK_52 => AWp.reg ?_
    iterate 1 (refine AOps.consU fun K' hK' => ?_; simp (disch := omega) only [go_sem, ↓reduceIte]; refine hK' _ ?_; clear hK' K')
    refine AOps.nil ?_
    simp only [Post.then]
    refine hK_52 _ ?_
    clear hK_52 K_52
    refine AWp.ret ?_
    simp only [Post.then, Post.inBlock, Go.Pv.Fin, Go.Pv.FinG]
    rw [← Option.some.inj h]
    refine ⟨.d (.int .i64 0), ?_, (by first | exact True.intro | rfl), .d (.int .i64 0), ?_, ?_⟩
    ·simp only [go_sem, Tryd.results28, List.length_append, List.length_set, List.length_replicate, ↓reduceIte]
    ·simp only [go_sem, lenc_nil, List.take_length, List.length_append, List.length_set, List.length_replicate, ↓reduceIte]
    ·(first | exact leV_refl _ | (simp only [go_sem, leV, leVL, leD, leDL, lenc_nil, leD_refl, leDL_refl, lstD_le, ↓reduceIte]; done))
end Go.Pv.Tryd

namespace Go.Pv.Tryd
open Go.Proofs Go.Pv
theorem m_cocketref01_trim_ok (d1 : (List Int)) (r : (List Int)) (h : m_cocketref01_trim d1 = some r) : PureFn Tryd.prog G 98 [.d (.imm 1 (lenc (PD.int .i64) d1))] (.d (.imm 1 (lenc (PD.int .i64) r))) := by
 unfold m_cocketref01_trim at h
 refine PureFn.intro2 Tryd.func98 (by rfl) (by rw [Tryd.ntmps98]; simp) ?_
 rw [Tryd.ntmps98]
 simp only [argEnv, reduceCtorEq, ↓reduceIte, Nat.reduceAdd, Nat.reduceMul, Nat.reduceLT, Nat.reduceLeDiff, Nat.reduceEqDiff, Nat.reduceBEq, Int.reduceToNat]
 refine AWp.seq fun K_1 hK_1 => AWp.reg ?_
 iterate 1 (refine AOps.consU fun K' hK' => ?_; simp (disch := omega) only [go_sem, ↓reduceIte]; refine hK' _ ?_; clear hK' K')
 refine AOps.nil ?_
 simp only [Post.then]
 refine hK_1 _ ?_
 clear hK_1 K_1
 refine AWp.seq fun K_2 hK_2 => AWp.reg ?_
 iterate 3 (refine AOps.consU fun K' hK' => ?_; simp (disch := omega) only [go_sem, ↓reduceIte]; refine hK' _ ?_; clear hK' K')
 refine AOps.nil ?_
 simp only [Post.then]
 refine hK_2 _ ?_
 clear hK_2 K_2
 obtain ⟨o_3, hj_4, h⟩ := bind_some h
 refine AWp.seqI (fun i_49 : Int => ⟨[(0, .d (.imm 1 (lenc (PD.int .i64) d1))), (3, .d (.int .i64 i_49))], [], [], none⟩) (fun i_49 => o_3 = i_49) ?_ ?_
 ·refine AWp.block ?_
  obtain ⟨x_9, hl_6, h2_7⟩ := bind_some hj_4
  obtain ⟨n_5, hl_6⟩ := iter_some hl_6
  refine AWp.loopI (fun i_22 : Nat × Int => ⟨[(0, .d (.imm 1 (lenc (PD.int .i64) d1))), (3, .d (.int .i64 i_22.2))], [], [], none⟩) (fun i_22 => iterN (m_cocketref01_trim_l1 d1) i_22.1 i_22.2 = some x_9) (fun i_22 => i_22.1) (n_5, (d1.length : Int)) hl_6 (Sub.mk ⟨rfl, rfl, trivial⟩ trivial ⟨trivial, trivial, trivial⟩ trivial ⟨rfl, trivial, rfl⟩) ?_
  clear hl_6
  rintro ⟨n_5, n2⟩ hl_6
  try dsimp only at hl_6
  try dsimp only
  cases n_5 with
  | zero => cases hl_6
  | succ n_5 =>
   rw [iterN_succ] at hl_6
   obtain ⟨ob_10, hb_8, hl_6⟩ := bind_some hl_6
   unfold m_cocketref01_trim_l1 at hb_8
   try dsimp only at hb_8
   refine AWp.seq fun K_11 hK_11 => ?_
   refine AWp.seq fun K_12 hK_12 => AWp.reg ?_
   iterate 3 (refine AOps.consU fun K' hK' => ?_; simp (disch := omega) only [go_sem, ↓reduceIte]; refine hK' _ ?_; clear hK' K')
   obtain ⟨b1, hc_13, hb_8⟩ := bind_some hb_8
   refine AOps.cut 7 (⟨[(0, .d (.imm 1 (lenc (PD.int .i64) d1))), (3, .d (.int .i64 n2)), (17, .d (.bool b1))], [], [], none⟩) ?_ ?_
   ·simp only [List.take_succ_cons, List.take_zero]
    rcases Bool.eq_false_or_eq_true (decide (0 < n2)) with hg_19 | hg_19
    ·rw [hg_19]
     rw [hg_19, cond_true] at hc_13
     obtain ⟨e1, hx_14, hc_13⟩ := bind_some hc_13
     obtain ⟨f_15, f_16, f_17, f_18⟩ := idx_some hx_14
     iterate 7 (refine AOps.consU fun K' hK' => ?_; simp (disch := omega) only [go_sem, f_17, ↓reduceIte]; refine hK' _ ?_; clear hK' K')
     refine AOps.nil ?_
     have hc_13 := Option.some.inj hc_13
     subst hc_13
     exact (Sub.mk ⟨rfl, rfl, rfl, trivial⟩ trivial ⟨trivial, trivial, trivial, trivial⟩ trivial ⟨rfl, trivial, rfl⟩)
    ·rw [hg_19]
     rw [hg_19, cond_false] at hc_13
     iterate 7 (refine AOps.consU fun K' hK' => ?_; simp (disch := omega) only [go_sem, ↓reduceIte]; refine hK' _ ?_; clear hK' K')
     refine AOps.nil ?_
     have hc_13 := Option.some.inj hc_13
     subst hc_13
     exact (Sub.mk ⟨rfl, rfl, rfl, trivial⟩ trivial ⟨trivial, trivial, trivial, trivial⟩ trivial ⟨rfl, trivial, rfl⟩)
   simp only [List.drop_succ_cons, List.drop_zero]
   refine AOps.nil ?_
   simp only [Post.then]
   refine hK_12 _ ?_
   clear hK_12 K_12
   refine AWp.cond (b := b1) (by rfl) (fun hb_20 => ?_) (fun hb_20 => ?_)
   ·rw [hb_20, cond_true] at hb_8
    refine AWp.skip ?_
    simp only [Post.then, Post.inBlock, ↓reduceIte, Nat.reduceEqDiff]
    refine hK_11 _ ?_
    clear hK_11 K_11
    refine AWp.block ?_
    refine AWp.reg ?_
    iterate 3 (refine AOps.consU fun K' hK' => ?_; simp (disch := omega) only [go_sem, ↓reduceIte]; refine hK' _ ?_; clear hK' K')
    refine AOps.nil ?_
    simp only [Post.then, Post.inBlock, ↓reduceIte, Nat.reduceEqDiff]
    rw [← Option.some.inj hb_8] at hl_6
    try dsimp only at hl_6
    exact ⟨(n_5, (IntKind.i64.wrap (n2 - 1))), hl_6, Nat.lt_succ_self n_5, (Sub.mk ⟨rfl, rfl, trivial⟩ trivial ⟨trivial, trivial, trivial⟩ trivial ⟨rfl, trivial, rfl⟩)⟩
   ·rw [hb_20, cond_false] at hb_8
    refine AWp.exit ?_
    simp only [Post.then, Post.inBlock, ↓reduceIte, Nat.reduceEqDiff]
    rw [← Option.some.inj hb_8] at hl_6
    try dsimp only at hl_6
    rw [← Option.some.inj hl_6] at h2_7
    try dsimp only at h2_7
    exact ⟨n2, (Option.some.inj h2_7).symm, (Sub.mk ⟨rfl, rfl, trivial⟩ trivial ⟨trivial, trivial, trivial⟩ trivial ⟨rfl, trivial, rfl⟩)⟩
 ·rintro n1 hx_50
  rw [hx_50] at h
  try dsimp only at h
  try dsimp only
  refine AWp.seq fun K_23 hK_23 => AWp.reg ?_
  iterate 1 (refine AOps.consU fun K' hK' => ?_; simp (disch := omega) only [go_sem, ↓reduceIte]; refine hK' _ ?_; clear hK' K')
  refine AOps.nil ?_
  simp only [Post.then]
  refine hK_23 _ ?_
  clear hK_23 K_23
  refine AWp.sub (Sub.void 4 3 1 1000 (by rfl) (by rfl) (by decide) (by decide)) ?_
  simp only [eput, hput, reduceCtorEq, ↓reduceIte, Nat.reduceAdd, Nat.reduceMul, Nat.reduceLT, Nat.reduceLeDiff, Nat.reduceEqDiff, Nat.reduceBEq, Int.reduceToNat]
  obtain ⟨o_24, hj_25, h⟩ := bind_some h
  refine AWp.seqI (fun i_47 : (List Int) => ⟨[(4, .slc 1000 0 i_47.length)], [(1000, ⟨3, 1, dl (lenc (PD.int .i64) i_47)⟩)], [], none⟩) (fun i_47 => o_24 = i_47) ?_ ?_
  ·refine AWp.seq fun K_26 hK_26 => AWp.reg ?_
   iterate 1 (refine AOps.consU fun K' hK' => ?_; simp (disch := omega) only [go_sem, ↓reduceIte]; refine hK' _ ?_; clear hK' K')
   refine AOps.nil ?_
   simp only [Post.then]
   refine hK_26 _ ?_
   clear hK_26 K_26
   refine AWp.block ?_
   obtain ⟨x_31, hl_28, h2_29⟩ := bind_some hj_25
   obtain ⟨n_27, hl_28⟩ := iter_some hl_28
   refine AWp.loopI (fun i_45 : Nat × (Int × (List Int)) => ⟨[(0, .d (.imm 1 (lenc (PD.int .i64) d1))), (3, .d (.int .i64 n1)), (4, .slc 1000 0 i_45.2.2.length), (5, .d (.int .i64 i_45.2.1))], [(1000, ⟨3, 1, dl (lenc (PD.int .i64) i_45.2.2)⟩)], [], none⟩) (fun i_45 => iterN (m_cocketref01_trim_l2 d1 n1) i_45.1 i_45.2 = some x_31) (fun i_45 => i_45.1) (n_27, (0, [])) hl_28 (Sub.mk ⟨rfl, rfl, slcl (by simp only [List.length_append, List.length_set, List.length_replicate, List.length_cons, List.length_nil, Nat.zero_add]), rfl, trivial⟩ ⟨rfl, trivial⟩ ⟨trivial, trivial, rfl, trivial, trivial⟩ ⟨row_refs _ _, trivial⟩ ⟨rfl, trivial, rfl⟩) ?_
   clear hl_28
   rintro ⟨n_27, i1, L2⟩ hl_28
   try dsimp only at hl_28
   try dsimp only
   cases n_27 with
   | zero => cases hl_28
   | succ n_27 =>
    rw [iterN_succ] at hl_28
    obtain ⟨ob_32, hb_30, hl_28⟩ := bind_some hl_28
    unfold m_cocketref01_trim_l2 at hb_30
    try dsimp only at hb_30
    refine AWp.seq fun K_33 hK_33 => ?_
    refine AWp.seq fun K_34 hK_34 => AWp.reg ?_
    iterate 3 (refine AOps.consU fun K' hK' => ?_; simp (disch := omega) only [go_sem, ↓reduceIte]; refine hK' _ ?_; clear hK' K')
    refine AOps.nil ?_
    simp only [Post.then]
    refine hK_34 _ ?_
    clear hK_34 K_34
    refine AWp.cond (b := (decide (i1 < n1))) (by rfl) (fun hb_35 => ?_) (fun hb_35 => ?_)
    ·rw [hb_35, cond_true] at hb_30
     refine AWp.skip ?_
     simp only [Post.then, Post.inBlock, ↓reduceIte, Nat.reduceEqDiff]
     refine hK_33 _ ?_
     clear hK_33 K_33
     refine AWp.seq fun K_36 hK_36 => ?_
     refine AWp.block ?_
     refine AWp.reg ?_
     obtain ⟨e2, hx_38, hb_30⟩ := bind_some hb_30
     obtain ⟨f_39, f_40, f_41, f_42⟩ := idx_some hx_38
     iterate 5 (refine AOps.consU fun K' hK' => ?_; simp (disch := omega) only [go_sem, f_41, ↓reduceIte]; refine hK' _ ?_; clear hK' K')
     refine AOps.consL fun K' hK' => ?_; simp (disch := omega) only [go_sem, f_41, ↓reduceIte]; refine hK' _ ?_; clear hK' K'
     obtain ⟨hg_43, hb_30⟩ := guardO_some hb_30
     iterate 2 (refine AOps.consU fun K' hK' => ?_; simp (disch := omega) only [go_sem, f_41, ↓reduceIte]; refine hK' _ ?_; clear hK' K')
     refine AOps.nil ?_
     simp only [Post.then, Post.inBlock, ↓reduceIte, Nat.reduceEqDiff]
     refine hK_36 _ ?_
     clear hK_36 K_36
     refine AWp.reg ?_
     iterate 3 (refine AOps.consU fun K' hK' => ?_; simp (disch := omega) only [go_sem, ↓reduceIte]; refine hK' _ ?_; clear hK' K')
     refine AOps.nil ?_
     simp only [Post.then, Post.inBlock, ↓reduceIte, Nat.reduceEqDiff]
     rw [← Option.some.inj hb_30] at hl_28
     try dsimp only at hl_28
     exact ⟨(n_27, ((IntKind.i64.wrap (i1 + 1)), (L2 ++ [e2]))), hl_28, Nat.lt_succ_self n_27, (Sub.mk ⟨rfl, rfl, slcl (by simp only [List.length_append, List.length_set, List.length_replicate, List.length_cons, List.length_nil, Nat.zero_add]), rfl, trivial⟩ ⟨rfl, trivial⟩ ⟨trivial, trivial, rfl, trivial, trivial⟩ ⟨row_refs _ _, trivial⟩ ⟨rfl, trivial, rfl⟩)⟩
    ·rw [hb_35, cond_false] at hb_30
     refine AWp.exit ?_
     simp only [Post.then, Post.inBlock, ↓reduceIte, Nat.reduceEqDiff]
     rw [← Option.some.inj hb_30] at hl_28
     try dsimp only at hl_28
     rw [← Option.some.inj hl_28] at h2_29
     try dsimp only at h2_29
     exact ⟨L2, (Option.some.inj h2_29).symm, (Sub.mk ⟨slcl (by simp only [List.length_append, List.length_set, List.length_replicate, List.length_cons, List.length_nil, Nat.zero_add]), trivial⟩ ⟨rfl, trivial⟩ ⟨rfl, trivial⟩ ⟨row_refs _ _, trivial⟩ ⟨rfl, trivial, rfl⟩)⟩
  ·rintro L1 hx_48
   rw [hx_48] at h
   try dsimp only at h
   try dsimp only
   refine AWp.seq fun K_46 hK_46 => AWp.reg ?_
   iterate 2 (refine AOps.consU fun K' hK' => ?_; simp (disch := omega) only [go_sem, ↓reduceIte]; refine hK' _ ?_; clear hK' K')
   refine AOps.nil ?_
   simp only [Post.then]
   refine hK_46 _ ?_
   clear hK_46 K_46
   refine AWp.ret ?_
   simp only [Post.then, Post.inBlock, Go.Pv.Fin, Go.Pv.FinG]
   rw [← Option.some.inj h]
   refine ⟨.slc 1000 0 L1.length, ?_, (by first | exact True.intro | rfl), .d (.imm 1 (lenc (PD.int .i64) L1)), ?_, ?_⟩
   ·simp only [go_sem, Tryd.results98, List.length_append, List.length_set, List.length_replicate, ↓reduceIte]
   ·simp only [go_sem, lenc_nil, List.take_length, List.length_append, List.length_set, List.length_replicate, ↓reduceIte]
   ·(first | exact leV_refl _ | (simp only [go_sem, leV, leVL, leD, leDL, lenc_nil, leD_refl, leDL_refl, lstD_le, ↓reduceIte]; done))
end Go.Pv.Tryd

namespace Go.Pv.Tryd
open Go.Proofs Go.Pv
theorem m_cocketref01_whole_ok (neg1 : Bool) (d1 : (List Int)) (r : Big) (h : m_cocketref01_whole neg1 d1 = some r) : PureFn Tryd.prog G 84 [.d (.bool neg1), .d (.imm 1 (lenc (PD.int .i64) d1))] (.d (.agg [(.bool r.Neg), (.imm 1 (lenc (PD.int .i64) r.D))])) := by
 unfold m_cocketref01_whole at h
 refine PureFn.intro2 Tryd.func84 (by rfl) (by rw [Tryd.ntmps84]; simp) ?_
 rw [Tryd.ntmps84]
 simp only [argEnv, reduceCtorEq, ↓reduceIte, Nat.reduceAdd, Nat.reduceMul, Nat.reduceLT, Nat.reduceLeDiff, Nat.reduceEqDiff, Nat.reduceBEq, Int.reduceToNat]
 refine AWp.seq fun K_1 hK_1 => AWp.reg ?_
 iterate 1 (refine AOps.consU fun K' hK' => ?_; simp (disch := omega) only [go_sem, ↓reduceIte]; refine hK' _ ?_; clear hK' K')
 refine AOps.nil ?_
 simp only [Post.then]
 refine hK_1 _ ?_
 clear hK_1 K_1
 refine AWp.seq fun K_2 hK_2 => AWp.reg ?_
 iterate 1 (refine AOps.consU fun K' hK' => ?_; simp (disch := omega) only [go_sem, ↓reduceIte]; refine hK' _ ?_; clear hK' K')
 obtain ⟨r1, hx_3, h⟩ := bind_some h
 refine AOps.consU fun K' hK' => ?_; simp (disch := omega) only [go_sem, ↓reduceIte]; refine OpT.call (by rfl) (by rfl) (by kernel_rfl) (m_cocketref01_trim_ok d1 _ hx_3) (by exact ⟨rfl, trivial⟩) (by simp only [go_sem, ↓reduceIte]) ?_ (by simp only [go_sem]); simp only [go_sem, ↓reduceIte]; refine hK' _ ?_; clear hK' K'
 iterate 1 (refine AOps.consU fun K' hK' => ?_; simp (disch := omega) only [go_sem, ↓reduceIte]; refine hK' _ ?_; clear hK' K')
 refine AOps.nil ?_
 simp only [Post.then]
 refine hK_2 _ ?_
 clear hK_2 K_2
 refine AWp.seq fun K_4 hK_4 => AWp.reg ?_
 iterate 2 (refine AOps.consU fun K' hK' => ?_; simp (disch := omega) only [go_sem, ↓reduceIte]; refine hK' _ ?_; clear hK' K')
 refine AOps.cut 4 (⟨[(4, .ptr 1000 0 0), (5, .d (.imm 1 (lenc (PD.int .i64) r1))), (13, .d (.bool (neg1 && (decide (0 < (r1.length : Int))))))], [(1000, ⟨57, 2, [.d (.agg [(.bool false), .nilslice])]⟩)], [], none⟩) ?_ ?_
 ·simp only [List.take_succ_cons, List.take_zero]
  rcases Bool.eq_false_or_eq_true neg1 with hg_6 | hg_6
  ·rw [hg_6]
   iterate 4 (refine AOps.consU fun K' hK' => ?_; simp (disch := omega) only [go_sem, ↓reduceIte]; refine hK' _ ?_; clear hK' K')
   refine AOps.nil ?_
   exact (Sub.mk ⟨rfl, rfl, rfl, trivial⟩ ⟨rfl, trivial⟩ ⟨rfl, trivial, trivial, trivial⟩ ⟨⟨trivial, trivial⟩, trivial⟩ ⟨rfl, trivial, rfl⟩)
  ·rw [hg_6]
   iterate 4 (refine AOps.consU fun K' hK' => ?_; simp (disch := omega) only [go_sem, ↓reduceIte]; refine hK' _ ?_; clear hK' K')
   refine AOps.nil ?_
   exact (Sub.mk ⟨rfl, rfl, rfl, trivial⟩ ⟨rfl, trivial⟩ ⟨rfl, trivial, trivial, trivial⟩ ⟨⟨trivial, trivial⟩, trivial⟩ ⟨rfl, trivial, rfl⟩)
 simp only [List.drop_succ_cons, List.drop_zero]
 iterate 3 (refine AOps.consU fun K' hK' => ?_; simp (disch := omega) only [go_sem, ↓reduceIte]; refine hK' _ ?_; clear hK' K')
 refine AOps.nil ?_
 simp only [Post.then]
 refine hK_4 _ ?_
 clear hK_4 K_4
 refine AWp.ret ?_
 simp only [Post.then, Post.inBlock, Go.Pv.Fin, Go.Pv.FinG]
 rw [← Option.some.inj h]
 refine ⟨.d (.agg [(.bool (neg1 && (decide (0 < (r1.length : Int))))), (.imm 1 (lenc (PD.int .i64) r1))]), ?_, (by first | exact True.intro | rfl), .d (.agg [(.bool (neg1 && (decide (0 < (r1.length : Int))))), (.imm 1 (lenc (PD.int .i64) r1))]), ?_, ?_⟩
 ·simp only [go_sem, Tryd.results84, List.length_append, List.length_set, List.length_replicate, ↓reduceIte]
 ·simp only [go_sem, lenc_nil, List.take_length, List.length_append, List.length_set, List.length_replicate, ↓reduceIte]
 ·(first | exact leV_refl _ | (simp only [go_sem, leV, leVL, leD, leDL, lenc_nil, leD_refl, leDL_refl, lstD_le, ↓reduceIte]; done))
end Go.Pv.Tryd

namespace Go.Pv.Tryd
open Go.Proofs Go.Pv
theorem m_cocketref01_Of_ok (n1 : Int) (r : Big) (h : m_cocketref01_Of n1 = some r) : PureFn Tryd.prog G 73 [.d (.int .i64 n1)] (.d (.agg [(.bool r.Neg), (.imm 1 (lenc (PD.int .i64) r.D))])) := by
 unfold m_cocketref01_Of at h
 refine PureFn.intro2 Tryd.func73 (by rfl) (by rw [Tryd.ntmps73]; simp) ?_
 rw [Tryd.ntmps73]
 simp only [argEnv, reduceCtorEq, ↓reduceIte, Nat.reduceAdd, Nat.reduceMul, Nat.reduceLT, Nat.reduceLeDiff, Nat.reduceEqDiff, Nat.reduceBEq, Int.reduceToNat]
 refine AWp.seq fun K_1 hK_1 => AWp.reg ?_
 iterate 1 (refine AOps.consU fun K' hK' => ?_; simp (disch := omega) only [go_sem, ↓reduceIte]; refine hK' _ ?_; clear hK' K')
 refine AOps.nil ?_
 simp only [Post.then]
 refine hK_1 _ ?_
 clear hK_1 K_1
 refine AWp.seq fun K_2 hK_2 => AWp.reg ?_
 iterate 1 (refine AOps.consU fun K' hK' => ?_; simp (disch := omega) only [go_sem, ↓reduceIte]; refine hK' _ ?_; clear hK' K')
 refine AOps.nil ?_
 simp only [Post.then]
 refine hK_2 _ ?_
 clear hK_2 K_2
 refine AWp.sub (Sub.void 3 3 1 1001 (by rfl) (by rfl) (by decide) (by decide)) ?_
 simp only [eput, hput, reduceCtorEq, ↓reduceIte, Nat.reduceAdd, Nat.reduceMul, Nat.reduceLT, Nat.reduceLeDiff, Nat.reduceEqDiff, Nat.reduceBEq, Int.reduceToNat]
 refine AWp.seq fun K_3 hK_3 => AWp.reg ?_
 iterate 3 (refine AOps.consU fun K' hK' => ?_; simp (disch := omega) only [go_sem, ↓reduceIte]; refine hK' _ ?_; clear hK' K')
 refine AOps.nil ?_
 simp only [Post.then]
 refine hK_3 _ ?_
 clear hK_3 K_3
 obtain ⟨o_4, hj_5, h⟩ := bind_some h
 refine AWp.seqI (fun i_29 : (List Int) => ⟨[(2, .ptr 1000 0 0), (3, .slc 1001 0 i_29.length), (4, .d (.bool (decide (n1 < 0))))], [(1000, ⟨57, 2, [.d (.agg [(.bool false), .nilslice])]⟩), (1001, ⟨3, 1, dl (lenc (PD.int .i64) i_29)⟩)], [], none⟩) (fun i_29 => o_4 = i_29) ?_ ?_
 ·refine AWp.block ?_
  obtain ⟨x_10, hl_7, h2_8⟩ := bind_some hj_5
  obtain ⟨n_6, hl_7⟩ := iter_some hl_7
  refine AWp.loopI (fun i_26 : Nat × (Int × (List Int)) => ⟨[(0, .d (.int .i64 i_26.2.1)), (2, .ptr 1000 0 0), (3, .slc 1001 0 i_26.2.2.length), (4, .d (.bool (decide (n1 < 0))))], [(1000, ⟨57, 2, [.d (.agg [(.bool false), .nilslice])]⟩), (1001, ⟨3, 1, dl (lenc (PD.int .i64) i_26.2.2)⟩)], [], none⟩) (fun i_26 => iterN m_cocketref01_Of_l1 i_26.1 i_26.2 = some x_10) (fun i_26 => i_26.1) (n_6, (n1, [])) hl_7 (Sub.mk ⟨rfl, rfl, slcl (by simp only [List.length_append, List.length_set, List.length_replicate, List.length_cons, List.length_nil, Nat.zero_add]), rfl, trivial⟩ ⟨rfl, rfl, trivial⟩ ⟨trivial, rfl, rfl, trivial, trivial⟩ ⟨⟨trivial, trivial⟩, row_refs _ _, trivial⟩ ⟨rfl, trivial, rfl⟩) ?_
  clear hl_7
  rintro ⟨n_6, n2, L2⟩ hl_7
  try dsimp only at hl_7
  try dsimp only
  cases n_6 with
  | zero => cases hl_7
  | succ n_6 =>
   rw [iterN_succ] at hl_7
   obtain ⟨ob_11, hb_9, hl_7⟩ := bind_some hl_7
   unfold m_cocketref01_Of_l1 at hb_9
   try dsimp only at hb_9
   refine AWp.seq fun K_12 hK_12 => ?_
   refine AWp.seq fun K_13 hK_13 => AWp.reg ?_
   iterate 2 (refine AOps.consU fun K' hK' => ?_; simp (disch := omega) only [go_sem, ↓reduceIte]; refine hK' _ ?_; clear hK' K')
   refine AOps.nil ?_
   simp only [Post.then]
   refine hK_13 _ ?_
   clear hK_13 K_13
   refine AWp.cond (b := (decide (¬n2 = 0))) (by rfl) (fun hb_14 => ?_) (fun hb_14 => ?_)
   ·rw [hb_14, cond_true] at hb_9
    refine AWp.skip ?_
    simp only [Post.then, Post.inBlock, ↓reduceIte, Nat.reduceEqDiff]
    refine hK_12 _ ?_
    clear hK_12 K_12
    refine AWp.block ?_
    refine AWp.seq fun K_15 hK_15 => AWp.reg ?_
    iterate 3 (refine AOps.consU fun K' hK' => ?_; simp (disch := omega) only [go_sem, ↓reduceIte]; refine hK' _ ?_; clear hK' K')
    refine AOps.nil ?_
    simp only [Post.then]
    refine hK_15 _ ?_
    clear hK_15 K_15
    obtain ⟨o_16, hj_17, hb_9⟩ := bind_some hb_9
    refine AWp.seqI (fun i_24 : Int => ⟨[(0, .d (.int .i64 n2)), (2, .ptr 1000 0 0), (3, .slc 1001 0 L2.length), (4, .d (.bool (decide (n1 < 0)))), (5, .d (.int .i64 i_24))], [(1000, ⟨57, 2, [.d (.agg [(.bool false), .nilslice])]⟩), (1001, ⟨3, 1, dl (lenc (PD.int .i64) L2)⟩)], [], none⟩) (fun i_24 => o_16 = i_24) ?_ ?_
    ·refine AWp.seq fun K_18 hK_18 => AWp.reg ?_
     iterate 2 (refine AOps.consU fun K' hK' => ?_; simp (disch := omega) only [go_sem, ↓reduceIte]; refine hK' _ ?_; clear hK' K')
     refine AOps.nil ?_
     simp only [Post.then]
     refine hK_18 _ ?_
     clear hK_18 K_18
     refine AWp.cond (b := (decide ((n2.tmod 10000) < 0))) (by rfl) (fun hb_19 => ?_) (fun hb_19 => ?_)
     ·rw [hb_19, cond_true] at hj_17
      refine AWp.reg ?_
      iterate 3 (refine AOps.consU fun K' hK' => ?_; simp (disch := omega) only [go_sem, ↓reduceIte]; refine hK' _ ?_; clear hK' K')
      refine AOps.nil ?_
      simp only [Post.then, Post.inBlock, ↓reduceIte, Nat.reduceEqDiff]
      exact ⟨(IntKind.i64.wrap (0 - (n2.tmod 10000))), (Option.some.inj hj_17).symm, (Sub.mk ⟨rfl, rfl, rfl, rfl, rfl, trivial⟩ ⟨rfl, rfl, trivial⟩ ⟨trivial, rfl, rfl, trivial, trivial, trivial⟩ ⟨⟨trivial, trivial⟩, row_refs _ _, trivial⟩ ⟨rfl, trivial, rfl⟩)⟩
     ·rw [hb_19, cond_false] at hj_17
      refine AWp.skip ?_
      simp only [Post.then, Post.inBlock, ↓reduceIte, Nat.reduceEqDiff]
      exact ⟨(n2.tmod 10000), (Option.some.inj hj_17).symm, (Sub.mk ⟨rfl, rfl, rfl, rfl, rfl, trivial⟩ ⟨rfl, rfl, trivial⟩ ⟨trivial, rfl, rfl, trivial, trivial, trivial⟩ ⟨⟨trivial, trivial⟩, row_refs _ _, trivial⟩ ⟨rfl, trivial, rfl⟩)⟩
    ·rintro r1 hx_25
     rw [hx_25] at hb_9
     try dsimp only at hb_9
     try dsimp only
     refine AWp.seq fun K_21 hK_21 => AWp.reg ?_
     iterate 2 (refine AOps.consU fun K' hK' => ?_; simp (disch := omega) only [go_sem, ↓reduceIte]; refine hK' _ ?_; clear hK' K')
     refine AOps.consL fun K' hK' => ?_; simp (disch := omega) only [go_sem, ↓reduceIte]; refine hK' _ ?_; clear hK' K'
     obtain ⟨hg_22, hb_9⟩ := guardO_some hb_9
     iterate 2 (refine AOps.consU fun K' hK' => ?_; simp (disch := omega) only [go_sem, ↓reduceIte]; refine hK' _ ?_; clear hK' K')
     refine AOps.nil ?_
     simp only [Post.then]
     refine hK_21 _ ?_
     clear hK_21 K_21
     refine AWp.reg ?_
     iterate 3 (refine AOps.consU fun K' hK' => ?_; simp (disch := omega) only [go_sem, ↓reduceIte]; refine hK' _ ?_; clear hK' K')
     refine AOps.nil ?_
     simp only [Post.then, Post.inBlock, ↓reduceIte, Nat.reduceEqDiff]
     rw [← Option.some.inj hb_9] at hl_7
     try dsimp only at hl_7
     exact ⟨(n_6, ((IntKind.i64.wrap (n2.tdiv 10000)), (L2 ++ [r1]))), hl_7, Nat.lt_succ_self n_6, (Sub.mk ⟨rfl, rfl, slcl (by simp only [List.length_append, List.length_set, List.length_replicate, List.length_cons, List.length_nil, Nat.zero_add]), rfl, trivial⟩ ⟨rfl, rfl, trivial⟩ ⟨trivial, rfl, rfl, trivial, trivial⟩ ⟨⟨trivial, trivial⟩, row_refs _ _, trivial⟩ ⟨rfl, trivial, rfl⟩)⟩
   ·rw [hb_14, cond_false] at hb_9
    refine AWp.exit ?_
    simp only [Post.then, Post.inBlock, ↓reduceIte, Nat.reduceEqDiff]
    rw [← Option.some.inj hb_9] at hl_7
    try dsimp only at hl_7
    rw [← Option.some.inj hl_7] at h2_8
    try dsimp only at h2_8
    exact ⟨L2, (Option.some.inj h2_8).symm, (Sub.mk ⟨rfl, slcl (by simp only [List.length_append, List.length_set, List.length_replicate, List.length_cons, List.length_nil, Nat.zero_add]), rfl, trivial⟩ ⟨rfl, rfl, trivial⟩ ⟨rfl, rfl, trivial, trivial⟩ ⟨⟨trivial, trivial⟩, row_refs _ _, trivial⟩ ⟨rfl, trivial, rfl⟩)⟩
 ·rintro L1 hx_30
  rw [hx_30] at h
  try dsimp only at h
  try dsimp only
  refine AWp.seq fun K_27 hK_27 => AWp.reg ?_
  iterate 2 (refine AOps.consU fun K' hK' => ?_; simp (disch := omega) only [go_sem, ↓reduceIte]; refine hK' _ ?_; clear hK' K')
  refine AOps.sub (τ := ⟨[(2, .ptr 1000 0 0), (22, .d (.bool (decide (n1 < 0)))), (23, .d (.imm 1 (lenc (PD.int .i64) L1)))], [(1000, ⟨57, 2, [.d (.agg [(.bool false), .nilslice])]⟩)], [], none⟩) (Sub.cv ⟨rfl, trivial⟩ ⟨.inl ⟨leV_refl _, rfl⟩, .inl ⟨leV_refl _, trivial⟩, .inr ⟨_, frz_row rfl (rfl), leV_refl _, rows_slc rfl⟩, trivial⟩ ⟨⟨trivial, trivial⟩, trivial⟩ ⟨rfl, trivial, rfl⟩) ?_
  obtain ⟨r2, hx_28, h⟩ := bind_some h
  refine AOps.consU fun K' hK' => ?_; simp (disch := omega) only [go_sem, ↓reduceIte]; refine OpT.call (by rfl) (by rfl) (by kernel_rfl) (m_cocketref01_whole_ok (decide (n1 < 0)) L1 _ hx_28) (by exact ⟨rfl, rfl, trivial⟩) (by simp only [go_sem, ↓reduceIte]) ?_ (by simp only [go_sem]); simp only [go_sem, ↓reduceIte]; refine hK' _ ?_; clear hK' K'
  iterate 1 (refine AOps.consU fun K' hK' => ?_; simp (disch := omega) only [go_sem, ↓reduceIte]; refine hK' _ ?_; clear hK' K')
  refine AOps.nil ?_
  simp only [Post.then]
  refine hK_27 _ ?_
  clear hK_27 K_27
  refine AWp.ret ?_
  simp only [Post.then, Post.inBlock, Go.Pv.Fin, Go.Pv.FinG]
  rw [← Option.some.inj h]
  refine ⟨.d (.agg [(.bool r2.Neg), (.imm 1 (lenc (PD.int .i64) r2.D))]), ?_, (by first | exact True.intro | rfl), .d (.agg [(.bool r2.Neg), (.imm 1 (lenc (PD.int .i64) r2.D))]), ?_, ?_⟩
  ·simp only [go_sem, Tryd.results73, List.length_append, List.length_set, List.length_replicate, ↓reduceIte]
  ·simp only [go_sem, lenc_nil, List.take_length, List.length_append, List.length_set, List.length_replicate, ↓reduceIte]
  ·(first | exact leV_refl _ | (simp only [go_sem, leV, leVL, leD, leDL, lenc_nil, leD_refl, leDL_refl, lstD_le, ↓reduceIte]; done))
end Go.Pv.Tryd

namespace Go.Pv.Tryd
open Go.Proofs Go.Pv
theorem m_cocketref01_Neg_ok (a1 : Big) (r : Big) (h : m_cocketref01_Neg a1 = some r) : PureFn Tryd.prog G 86 [.d (.agg [(.bool a1.Neg), (.imm 1 (lenc (PD.int .i64) a1.D))])] (.d (.agg [(.bool r.Neg), (.imm 1 (lenc (PD.int .i64) r.D))])) := by
 unfold m_cocketref01_Neg at h
 refine PureFn.intro2 Tryd.func86 (by rfl) (by rw [Tryd.ntmps86]; simp) ?_
 rw [Tryd.ntmps86]
 simp only [argEnv, reduceCtorEq, ↓reduceIte, Nat.reduceAdd, Nat.reduceMul, Nat.reduceLT, Nat.reduceLeDiff, Nat.reduceEqDiff, Nat.reduceBEq, Int.reduceToNat]
 refine AWp.seq fun K_1 hK_1 => AWp.reg ?_
 iterate 2 (refine AOps.consU fun K' hK' => ?_; simp (disch := omega) only [go_sem, ↓reduceIte]; refine hK' _ ?_; clear hK' K')
 refine AOps.nil ?_
 simp only [Post.then]
 refine hK_1 _ ?_
 clear hK_1 K_1
 refine AWp.seq fun K_2 hK_2 => AWp.reg ?_
 iterate 5 (refine AOps.consU fun K' hK' => ?_; simp (disch := omega) only [go_sem, ↓reduceIte]; refine hK' _ ?_; clear hK' K')
 obtain ⟨r1, hx_3, h⟩ := bind_some h
 refine AOps.consU fun K' hK' => ?_; simp (disch := omega) only [go_sem, ↓reduceIte]; refine OpT.call (by rfl) (by rfl) (by kernel_rfl) (m_cocketref01_whole_ok (!a1.Neg) a1.D _ hx_3) (by exact ⟨rfl, rfl, trivial⟩) (by simp only [go_sem, ↓reduceIte]) ?_ (by simp only [go_sem]); simp only [go_sem, ↓reduceIte]; refine hK' _ ?_; clear hK' K'
 iterate 1 (refine AOps.consU fun K' hK' => ?_; simp (disch := omega) only [go_sem, ↓reduceIte]; refine hK' _ ?_; clear hK' K')
 refine AOps.nil ?_
 simp only [Post.then]
 refine hK_2 _ ?_
 clear hK_2 K_2
 refine AWp.ret ?_
 simp only [Post.then, Post.inBlock, Go.Pv.Fin, Go.Pv.FinG]
 rw [← Option.some.inj h]
 refine ⟨.d (.agg [(.bool r1.Neg), (.imm 1 (lenc (PD.int .i64) r1.D))]), ?_, (by first | exact True.intro | rfl), .d (.agg [(.bool r1.Neg), (.imm 1 (lenc (PD.int .i64) r1.D))]), ?_, ?_⟩
 ·simp only [go_sem, Tryd.results86, List.length_append, List.length_set, List.length_replicate, ↓reduceIte]
 ·simp only [go_sem, lenc_nil, List.take_length, List.length_append, List.length_set, List.length_replicate, ↓reduceIte]
 ·(first | exact leV_refl _ | (simp only [go_sem, leV, leVL, leD, leDL, lenc_nil, leD_refl, leDL_refl, lstD_le, ↓reduceIte]; done))
end Go.Pv.Tryd

namespace Go.Pv.Tryd
open Go.Proofs Go.Pv
theorem m_cocketref01_mulD_ok (a1 : (List Int)) (b1 : (List Int)) (r : (List Int)) (h : m_cocketref01_mulD a1 b1 = some r) : PureFn Tryd.prog G 85 [.d (.imm 1 (lenc (PD.int .i64) a1)), .d (.imm 1 (lenc (PD.int .i64) b1))] (.d (.imm 1 (lenc (PD.int .i64) r))) := by
 unfold m_cocketref01_mulD at h
 refine PureFn.intro2 Tryd.func85 (by rfl) (by rw [Tryd.ntmps85]; simp) ?_
 rw [Tryd.ntmps85]
 simp only [argEnv, reduceCtorEq, ↓reduceIte, Nat.reduceAdd, Nat.reduceMul, Nat.reduceLT, Nat.reduceLeDiff, Nat.reduceEqDiff, Nat.reduceBEq, Int.reduceToNat]
 refine AWp.seq fun K_1 hK_1 => AWp.reg ?_
 iterate 1 (refine AOps.consU fun K' hK' => ?_; simp (disch := omega) only [go_sem, ↓reduceIte]; refine hK' _ ?_; clear hK' K')
 refine AOps.nil ?_
 simp only [Post.then]
 refine hK_1 _ ?_
 clear hK_1 K_1
 refine AWp.seq fun K_2 hK_2 => AWp.reg ?_
 obtain ⟨hg_3, h⟩ := guardO_some h
 iterate 7 (refine AOps.consU fun K' hK' => ?_; simp (disch := omega) only [go_sem, ↓reduceIte]; refine hK' _ ?_; clear hK' K')
 refine AOps.nil ?_
 simp only [Post.then]
 refine hK_2 _ ?_
 clear hK_2 K_2
 obtain ⟨o_4, hj_5, h⟩ := bind_some h
 refine AWp.seqI (fun i_71 : (List Int) => ⟨[(5, .slc 1000 0 i_71.length)], [(1000, ⟨3, 1, dl (lenc (PD.int .i64) i_71)⟩)], [], none⟩) (fun i_71 => o_4 = i_71) ?_ ?_
 ·refine AWp.seq fun K_6 hK_6 => AWp.reg ?_
  iterate 1 (refine AOps.consU fun K' hK' => ?_; simp (disch := omega) only [go_sem, ↓reduceIte]; refine hK' _ ?_; clear hK' K')
  refine AOps.nil ?_
  simp only [Post.then]
  refine hK_6 _ ?_
  clear hK_6 K_6
  refine AWp.block ?_
  obtain ⟨x_11, hl_8, h2_9⟩ := bind_some hj_5
  obtain ⟨n_7, hl_8⟩ := iter_some hl_8
  refine AWp.loopI (fun i_68 : Nat × (Int × (List Int)) => ⟨[(0, .d (.imm 1 (lenc (PD.int .i64) a1))), (1, .d (.imm 1 (lenc (PD.int .i64) b1))), (5, .slc 1000 0 i_68.2.2.length), (6, .d (.int .i64 i_68.2.1))], [(1000, ⟨3, 1, dl (lenc (PD.int .i64) i_68.2.2)⟩)], [], none⟩) (fun i_68 => iterN (m_cocketref01_mulD_l1 a1 b1) i_68.1 i_68.2 = some x_11) (fun i_68 => i_68.1) (n_7, (0, (List.replicate ((IntKind.i64.wrap ((a1.length : Int) + (b1.length : Int)))).toNat (0 : Int)))) hl_8 (Sub.mk ⟨rfl, rfl, slcl (by simp only [List.length_append, List.length_set, List.length_replicate, List.length_cons, List.length_nil, Nat.zero_add]), rfl, trivial⟩ ⟨rfl, trivial⟩ ⟨trivial, trivial, rfl, trivial, trivial⟩ ⟨row_refs _ _, trivial⟩ ⟨rfl, trivial, rfl⟩) ?_
  clear hl_8
  rintro ⟨n_7, i1, L2⟩ hl_8
  try dsimp only at hl_8
  try dsimp only
  cases n_7 with
  | zero => cases hl_8
  | succ n_7 =>
   rw [iterN_succ] at hl_8
   obtain ⟨ob_12, hb_10, hl_8⟩ := bind_some hl_8
   unfold m_cocketref01_mulD_l1 at hb_10
   try dsimp only at hb_10
   refine AWp.seq fun K_13 hK_13 => ?_
   refine AWp.seq fun K_14 hK_14 => AWp.reg ?_
   iterate 4 (refine AOps.consU fun K' hK' => ?_; simp (disch := omega) only [go_sem, ↓reduceIte]; refine hK' _ ?_; clear hK' K')
   refine AOps.nil ?_
   simp only [Post.then]
   refine hK_14 _ ?_
   clear hK_14 K_14
   refine AWp.cond (b := (decide (i1 < (a1.length : Int)))) (by rfl) (fun hb_15 => ?_) (fun hb_15 => ?_)
   ·rw [hb_15, cond_true] at hb_10
    refine AWp.skip ?_
    simp only [Post.then, Post.inBlock, ↓reduceIte, Nat.reduceEqDiff]
    refine hK_13 _ ?_
    clear hK_13 K_13
    obtain ⟨o_16, hj_17, hb_10⟩ := bind_some hb_10
    refine AWp.seqI (fun i_66 : (List Int) => ⟨[(0, .d (.imm 1 (lenc (PD.int .i64) a1))), (1, .d (.imm 1 (lenc (PD.int .i64) b1))), (5, .slc 1000 0 i_66.length), (6, .d (.int .i64 i1))], [(1000, ⟨3, 1, dl (lenc (PD.int .i64) i_66)⟩)], [], none⟩) (fun i_66 => o_16 = i_66) ?_ ?_
    ·refine AWp.block ?_
     refine AWp.seq fun K_18 hK_18 => AWp.reg ?_
     iterate 1 (refine AOps.consU fun K' hK' => ?_; simp (disch := omega) only [go_sem, ↓reduceIte]; refine hK' _ ?_; clear hK' K')
     refine AOps.nil ?_
     simp only [Post.then]
     refine hK_18 _ ?_
     clear hK_18 K_18
     obtain ⟨o_19, hj_20, hj_17⟩ := bind_some hj_17
     refine AWp.seqI (fun i_63 : (Int × (List Int)) => ⟨[(0, .d (.imm 1 (lenc (PD.int .i64) a1))), (1, .d (.imm 1 (lenc (PD.int .i64) b1))), (5, .slc 1000 0 i_63.2.length), (6, .d (.int .i64 i1)), (7, .d (.int .i64 i_63.1))], [(1000, ⟨3, 1, dl (lenc (PD.int .i64) i_63.2)⟩)], [], none⟩) (fun i_63 => o_19 = i_63) ?_ ?_
     ·refine AWp.seq fun K_21 hK_21 => AWp.reg ?_
      iterate 1 (refine AOps.consU fun K' hK' => ?_; simp (disch := omega) only [go_sem, ↓reduceIte]; refine hK' _ ?_; clear hK' K')
      refine AOps.nil ?_
      simp only [Post.then]
      refine hK_21 _ ?_
      clear hK_21 K_21
      refine AWp.block ?_
      obtain ⟨x_26, hl_23, h2_24⟩ := bind_some hj_20
      obtain ⟨n_22, hl_23⟩ := iter_some hl_23
      refine AWp.loopI (fun i_56 : Nat × (Int × Int × (List Int)) => ⟨[(0, .d (.imm 1 (lenc (PD.int .i64) a1))), (1, .d (.imm 1 (lenc (PD.int .i64) b1))), (5, .slc 1000 0 i_56.2.2.2.length), (6, .d (.int .i64 i1)), (7, .d (.int .i64 i_56.2.1)), (8, .d (.int .i64 i_56.2.2.1))], [(1000, ⟨3, 1, dl (lenc (PD.int .i64) i_56.2.2.2)⟩)], [], none⟩) (fun i_56 => iterN (m_cocketref01_mulD_l2 a1 b1 i1) i_56.1 i_56.2 = some x_26) (fun i_56 => i_56.1) (n_22, (0, 0, L2)) hl_23 (Sub.mk ⟨rfl, rfl, slcl (by simp only [List.length_append, List.length_set, List.length_replicate, List.length_cons, List.length_nil, Nat.zero_add]), rfl, rfl, rfl, trivial⟩ ⟨rfl, trivial⟩ ⟨trivial, trivial, rfl, trivial, trivial, trivial, trivial⟩ ⟨row_refs _ _, trivial⟩ ⟨rfl, trivial, rfl⟩) ?_
      clear hl_23
      rintro ⟨n_22, carry2, k1, L5⟩ hl_23
      try dsimp only at hl_23
      try dsimp only
      cases n_22 with
      | zero => cases hl_23
      | succ n_22 =>
       rw [iterN_succ] at hl_23
       obtain ⟨ob_27, hb_25, hl_23⟩ := bind_some hl_23
       unfold m_cocketref01_mulD_l2 at hb_25
       try dsimp only at hb_25
       refine AWp.seq fun K_28 hK_28 => ?_
       refine AWp.seq fun K_29 hK_29 => AWp.reg ?_
       iterate 4 (refine AOps.consU fun K' hK' => ?_; simp (disch := omega) only [go_sem, ↓reduceIte]; refine hK' _ ?_; clear hK' K')
       refine AOps.nil ?_
       simp only [Post.then]
       refine hK_29 _ ?_
       clear hK_29 K_29
       refine AWp.cond (b := (decide (k1 < (b1.length : Int)))) (by rfl) (fun hb_30 => ?_) (fun hb_30 => ?_)
       ·rw [hb_30, cond_true] at hb_25
        refine AWp.skip ?_
        simp only [Post.then, Post.inBlock, ↓reduceIte, Nat.reduceEqDiff]
        refine hK_28 _ ?_
        clear hK_28 K_28
        refine AWp.seq fun K_31 hK_31 => ?_
        refine AWp.block ?_
        refine AWp.seq fun K_32 hK_32 => AWp.draw mo [] (by trivial) ?_
        obtain ⟨e1, hx_33, hb_25⟩ := bind_some hb_25
        obtain ⟨f_34, f_35, f_36, f_37⟩ := idx_some hx_33
        obtain ⟨e2, hx_38, hb_25⟩ := bind_some hb_25
        obtain ⟨f_39, f_40, f_41, f_42⟩ := idx_some hx_38
        obtain ⟨e3, hx_43, hb_25⟩ := bind_some hb_25
        obtain ⟨f_44, f_45, f_46, f_47⟩ := idx_some hx_43
        iterate 19 (refine DOps.consU fun K' hK' => ?_; simp (disch := omega) only [go_sem, f_36, f_41, f_46, ↓reduceIte]; refine hK' _ _ ?_; clear hK' K'; simp only [List.nil_append, List.cons_append])
        refine DOps.nil (by kernel_rfl) ?_
        simp only [Post.then]
        refine hK_32 _ ?_
        clear hK_32 K_32
        refine AWp.seq fun K_48 hK_48 => AWp.reg ?_
        obtain ⟨e4, hx_49, hb_25⟩ := bind_some hb_25
        obtain ⟨f_50, f_51, f_52, f_53⟩ := idx_some hx_49
        iterate 8 (refine AOps.consU fun K' hK' => ?_; simp (disch := omega) only [go_sem, f_52, ↓reduceIte]; refine hK' _ ?_; clear hK' K')
        refine AOps.nil ?_
        simp only [Post.then]
        refine hK_48 _ ?_
        clear hK_48 K_48
        refine AWp.reg ?_
        iterate 3 (refine AOps.consU fun K' hK' => ?_; simp (disch := omega) only [go_sem, ↓reduceIte]; refine hK' _ ?_; clear hK' K')
        refine AOps.nil ?_
        simp only [Post.then, Post.inBlock, ↓reduceIte, Nat.reduceEqDiff]
        refine hK_31 _ ?_
        clear hK_31 K_31
        refine AWp.reg ?_
        iterate 3 (refine AOps.consU fun K' hK' => ?_; simp (disch := omega) only [go_sem, ↓reduceIte]; refine hK' _ ?_; clear hK' K')
        refine AOps.nil ?_
        simp only [Post.then, Post.inBlock, ↓reduceIte, Nat.reduceEqDiff]
        rw [← Option.some.inj hb_25] at hl_23
        try dsimp only at hl_23
        exact ⟨(n_22, ((IntKind.i64.wrap ((IntKind.i64.wrap ((IntKind.i64.wrap (e1 + (IntKind.i64.wrap (e2 * e3)))) + carry2)).tdiv 10000)), (IntKind.i64.wrap (k1 + 1)), (L5.set ((IntKind.i64.wrap (i1 + k1))).toNat ((IntKind.i64.wrap ((IntKind.i64.wrap (e1 + (IntKind.i64.wrap (e2 * e3)))) + carry2)).tmod 10000)))), hl_23, Nat.lt_succ_self n_22, (Sub.mk ⟨rfl, rfl, slcl (by simp only [List.length_append, List.length_set, List.length_replicate, List.length_cons, List.length_nil, Nat.zero_add]), rfl, rfl, rfl, trivial⟩ ⟨rfl, trivial⟩ ⟨trivial, trivial, rfl, trivial, trivial, trivial, trivial⟩ ⟨row_refs _ _, trivial⟩ ⟨rfl, trivial, rfl⟩)⟩
       ·rw [hb_30, cond_false] at hb_25
        refine AWp.exit ?_
        simp only [Post.then, Post.inBlock, ↓reduceIte, Nat.reduceEqDiff]
        rw [← Option.some.inj hb_25] at hl_23
        try dsimp only at hl_23
        rw [← Option.some.inj hl_23] at h2_24
        try dsimp only at h2_24
        exact ⟨(carry2, L5), (Option.some.inj h2_24).symm, (Sub.mk ⟨rfl, rfl, slcl (by simp only [List.length_append, List.length_set, List.length_replicate, List.length_cons, List.length_nil, Nat.zero_add]), rfl, rfl, trivial⟩ ⟨rfl, trivial⟩ ⟨trivial, trivial, rfl, trivial, trivial, trivial⟩ ⟨row_refs _ _, trivial⟩ ⟨rfl, trivial, rfl⟩)⟩
     ·rintro ⟨carry1, L4⟩ hx_64
      rw [hx_64] at hj_17
      try dsimp only at hj_17
      try dsimp only
      refine AWp.reg ?_
      obtain ⟨e5, hx_58, hj_17⟩ := bind_some hj_17
      obtain ⟨f_59, f_60, f_61, f_62⟩ := idx_some hx_58
      try simp only [Int.toNat_natCast] at f_61 f_62
      iterate 8 (refine AOps.consU fun K' hK' => ?_; simp (disch := omega) only [go_sem, f_61, ↓reduceIte]; refine hK' _ ?_; clear hK' K')
      refine AOps.nil ?_
      simp only [Post.then, Post.inBlock, ↓reduceIte, Nat.reduceEqDiff]
      exact ⟨(L4.set ((IntKind.i64.wrap (i1 + (b1.length : Int)))).toNat carry1), (Option.some.inj hj_17).symm, (Sub.mk ⟨rfl, rfl, slcl (by simp only [List.length_append, List.length_set, List.length_replicate, List.length_cons, List.length_nil, Nat.zero_add]), rfl, trivial⟩ ⟨rfl, trivial⟩ ⟨trivial, trivial, rfl, trivial, trivial⟩ ⟨row_refs _ _, trivial⟩ ⟨rfl, trivial, rfl⟩)⟩
    ·rintro L3 hx_67
     rw [hx_67] at hb_10
     try dsimp only at hb_10
     try dsimp only
     refine AWp.reg ?_
     iterate 3 (refine AOps.consU fun K' hK' => ?_; simp (disch := omega) only [go_sem, ↓reduceIte]; refine hK' _ ?_; clear hK' K')
     refine AOps.nil ?_
     simp only [Post.then, Post.inBlock, ↓reduceIte, Nat.reduceEqDiff]
     rw [← Option.some.inj hb_10] at hl_8
     try dsimp only at hl_8
     exact ⟨(n_7, ((IntKind.i64.wrap (i1 + 1)), L3)), hl_8, Nat.lt_succ_self n_7, (Sub.mk ⟨rfl, rfl, slcl (by simp only [List.length_append, List.length_set, List.length_replicate, List.length_cons, List.length_nil, Nat.zero_add]), rfl, trivial⟩ ⟨rfl, trivial⟩ ⟨trivial, trivial, rfl, trivial, trivial⟩ ⟨row_refs _ _, trivial⟩ ⟨rfl, trivial, rfl⟩)⟩
   ·rw [hb_15, cond_false] at hb_10
    refine AWp.exit ?_
    simp only [Post.then, Post.inBlock, ↓reduceIte, Nat.reduceEqDiff]
    rw [← Option.some.inj hb_10] at hl_8
    try dsimp only at hl_8
    rw [← Option.some.inj hl_8] at h2_9
    try dsimp only at h2_9
    exact ⟨L2, (Option.some.inj h2_9).symm, (Sub.mk ⟨slcl (by simp only [List.length_append, List.length_set, List.length_replicate, List.length_cons, List.length_nil, Nat.zero_add]), trivial⟩ ⟨rfl, trivial⟩ ⟨rfl, trivial⟩ ⟨row_refs _ _, trivial⟩ ⟨rfl, trivial, rfl⟩)⟩
 ·rintro L1 hx_72
  rw [hx_72] at h
  try dsimp only at h
  try dsimp only
  refine AWp.seq fun K_69 hK_69 => AWp.reg ?_
  iterate 1 (refine AOps.consU fun K' hK' => ?_; simp (disch := omega) only [go_sem, ↓reduceIte]; refine hK' _ ?_; clear hK' K')
  refine AOps.sub (τ := ⟨[(62, .d (.imm 1 (lenc (PD.int .i64) L1)))], [], [], none⟩) (Sub.cv trivial ⟨.inr ⟨_, frz_row rfl (rfl), leV_refl _, rows_slc rfl⟩, trivial⟩ trivial ⟨rfl, trivial, rfl⟩) ?_
  obtain ⟨r1, hx_70, h⟩ := bind_some h
  refine AOps.consU fun K' hK' => ?_; simp (disch := omega) only [go_sem, ↓reduceIte]; refine OpT.call (by rfl) (by rfl) (by kernel_rfl) (m_cocketref01_trim_ok L1 _ hx_70) (by exact ⟨rfl, trivial⟩) (by simp only [go_sem, ↓reduceIte]) ?_ (by simp only [go_sem]); simp only [go_sem, ↓reduceIte]; refine hK' _ ?_; clear hK' K'
  iterate 1 (refine AOps.consU fun K' hK' => ?_; simp (disch := omega) only [go_sem, ↓reduceIte]; refine hK' _ ?_; clear hK' K')
  refine AOps.nil ?_
  simp only [Post.then]
  refine hK_69 _ ?_
  clear hK_69 K_69
  refine AWp.ret ?_
  simp only [Post.then, Post.inBlock, Go.Pv.Fin, Go.Pv.FinG]
  rw [← Option.some.inj h]
  refine ⟨.d (.imm 1 (lenc (PD.int .i64) r1)), ?_, (by first | exact True.intro | rfl), .d (.imm 1 (lenc (PD.int .i64) r1)), ?_, ?_⟩
  ·simp only [go_sem, Tryd.results85, List.length_append, List.length_set, List.length_replicate, ↓reduceIte]
  ·simp only [go_sem, lenc_nil, List.take_length, List.length_append, List.length_set, List.length_replicate, ↓reduceIte]
  ·(first | exact leV_refl _ | (simp only [go_sem, leV, leVL, leD, leDL, lenc_nil, leD_refl, leDL_refl, lstD_le, ↓reduceIte]; done))
end Go.Pv.Tryd

