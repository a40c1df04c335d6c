/- RateTurned answers true for every input, as its tied card says: under the conditions of the card (Rows, Cards, Tie), no more. Part 5 of 5: by one AI agent and its programs; no person has read it. -/
import Derived.Test.YtmnemlihimnofaaDoorRateTurnedA
import Derived.Test.YtmnemlihimnofaaDoorRateTurnedB
import Derived.Test.YtmnemlihimnofaaDoorRateTurnedC
import Derived.Test.YtmnemlihimnofaaDoorRateTurnedD
import Derived.Shelf.Sort.Plain
import Derived.Shelf.Slices.CompactI
import Derived.Shelf.Slices.In.SortNone
import Derived.Test.YtmnemlihimnofaaDoorProg
import Derived.Test.YtmnemlihimnofaaDoorCards
import Derived.Test.YtmnemlihimnofaaDoorTie
import Derived.SevenTiedAt
set_option linter.unusedSimpArgs false
set_option linter.unusedVariables false
set_option linter.all false

set_option linter.unusedSimpArgs false
set_option linter.unusedVariables false
namespace Go.Pv.Tryd
open Go.Proofs Go.Pv
def addOf (offers : List Offer) (frm length : Int) (rounds : Bool) (k : Nat) (w : Walk) (s : List Bool) (oi : Offer × Nat) : List Walk :=
  if walkSkip frm length rounds w (s.set w.to.toNat true) oi.1 = true then []
  else walkOn offers frm length rounds k ⟨w.list ++ [(oi.2 : Int)], timesN w.rate (ratioN oi.1.Num oi.1.Den), oi.1.To⟩ (s.set w.to.toNat true)
def ysOf (offers : List Offer) (frm length : Int) (rounds : Bool) (k : Nat) (w : Walk) (s : List Bool) (i : Nat) : List Walk := (offers.zipIdx.take i).flatMap (addOf offers frm length rounds k w s)
theorem ysOf_zero (offers : List Offer) (frm length : Int) (rounds : Bool) (k : Nat) (w : Walk) (s : List Bool) : ysOf offers frm length rounds k w s 0 = [] := rfl
theorem ysOf_succ {offers : List Offer} {frm length : Int} {rounds : Bool} {k : Nat} {w : Walk} {s : List Bool} {i : Nat} {o : Offer} (h : offers[i]? = some o) :
    ysOf offers frm length rounds k w s (i + 1) = ysOf offers frm length rounds k w s i ++ addOf offers frm length rounds k w s (o, i) := by
  have hz : offers.zipIdx[i]? = some (o, i) := by simp [List.getElem?_zipIdx, h]
  unfold ysOf
  rw [List.take_add_one, hz]
  simp [List.flatMap_append]
theorem ysOf_all (offers : List Offer) (frm length : Int) (rounds : Bool) (k : Nat) (w : Walk) (s : List Bool) : ysOf offers frm length rounds k w s offers.length = offers.zipIdx.flatMap (addOf offers frm length rounds k w s) := by
  unfold ysOf
  rw [List.take_of_length_le (by simp)]
theorem ysOf_pre {offers : List Offer} {frm length : Int} {rounds : Bool} {k : Nat} {w : Walk} {s : List Bool} {i : Nat} : ∃ r, offers.zipIdx.flatMap (addOf offers frm length rounds k w s) = ysOf offers frm length rounds k w s i ++ r := by
  refine ⟨(offers.zipIdx.drop i).flatMap (addOf offers frm length rounds k w s), ?_⟩
  unfold ysOf
  rw [← List.flatMap_append, List.take_append_drop]
def headOn (m : Market) (frm length : Int) (rounds : Bool) (l : Nat) (all xs : List PD) (k : Nat) (w : Walk) (s : List Bool) (i : Nat) : St :=
  ⟨[(1, .dptr 1 [.int .i64 length] 0 0), (2, .dptr 1 [.int .i64 frm] 0 0), (3, .dptr 1 [.bool rounds] 0 0), (5, .ptr 2 0 0), (7, .ptr 4 0 0), (8, .ptr 1000 0 0), (35, .d (.imm 4 (lenc Offer.pd m.offers))), (36, .d (.int .i64 m.offers.length)), (37, .d (.int .i64 i))],
   heapIn m frm length rounds l m.n.toNat (s.set w.to.toNat true) w, [.func (.func 95) [.ptr 2 0 0, .ptr 1000 0 0]], some (l, all, xs ++ lenc Walk.pd (ysOf m.offers frm length rounds k w s i), true)⟩
theorem heapIn_refs (m : Market) (frm length : Int) (rounds : Bool) (l n : Nat) (s : List Bool) (w : Walk) : heapRefs (heapIn m frm length rounds l n s w) (heapIn m frm length rounds l n s w) := by
  simp only [heapIn, capsOn, go_sem, ↓reduceIte]
theorem on_step (m : Market) (frm length : Int) (rounds : Bool) (l : Nat) (all : List PD) (hpre : walksPre m frm length rounds = true) (k : Nat) (w : Walk) (s : List Bool) (xs : List PD) (hk : OnOk m length w s (k + 1)) (he : ¬ (w.list.length : Int) = length)
    (ih : ∀ (w' : Walk) (s' : List Bool) (xs' : List PD), OnOk m length w' s' k → xs' ++ lenc Walk.pd (walkOn m.offers frm length rounds k w' s') <+: all →
      FnG Tryd.prog G 94 (.d w'.pd :: capsOn m frm length rounds) (heapOn m frm length rounds l m.n.toNat s') (some (l, all, xs', true)) (OnPost (lenc Walk.pd (walkOn m.offers frm length rounds k w' s')) (heapOn m frm length rounds l m.n.toNat s') l all xs'))
    (hall : xs ++ lenc Walk.pd (walkOn m.offers frm length rounds (k + 1) w s) <+: all) :
    FnG Tryd.prog G 94 (.d w.pd :: capsOn m frm length rounds) (heapOn m frm length rounds l m.n.toNat s) (some (l, all, xs, true)) (OnPost (lenc Walk.pd (walkOn m.offers frm length rounds (k + 1) w s)) (heapOn m frm length rounds l m.n.toNat s) l all xs) := by
  have hw : walkOn m.offers frm length rounds (k + 1) w s = m.offers.zipIdx.flatMap (addOf m.offers frm length rounds k w s) := by rw [walkOn, if_neg he]; rfl
  rw [hw] at hall ⊢
  have hf : s[w.to.toNat]? = some false := hk.free.resolve_right he
  have hto : w.to.toNat < s.length := by rw [hk.len]; have := hk.to1; have := hk.to2; omega
  have hn : s.length = m.n.toNat := hk.len
  have ht1 := hk.to1
  have ht2 := hk.to2
  refine on_less ?_
  refine FnG.introD Tryd.func94 (by rfl) (by rw [Tryd.ntmps94]; simp [capsOn]) ?_
  rw [Tryd.ntmps94]
  simp only [argEnv, capsOn, heapOn, Nat.reduceAdd]
  refine AWp.seq fun K hK => AWp.reg ?_
  iterate 2 (refine AOps.consU fun K' hK' => ?_; simp (disch := omega) only [go_sem, ↓reduceIte]; refine hK' _ ?_; clear hK' K')
  refine AOps.nil ?_
  simp only [Post.then]
  refine hK _ ?_; clear hK K
  refine AWp.seq fun K hK => ?_
  refine AWp.seq fun K2 hK2 => AWp.reg ?_
  iterate 5 (refine AOps.consU fun K' hK' => ?_; simp (disch := omega) only [go_sem, ↓reduceIte]; refine hK' _ ?_; clear hK' K')
  refine AOps.nil ?_
  simp only [Post.then]
  refine hK2 _ ?_; clear hK2 K2
  refine AWp.cond (b := decide ((w.list.length : Int) = length)) (by rfl) (fun hb => ?_) (fun hb => ?_)
  · exact absurd (by simpa using hb) he
  refine AWp.skip ?_
  simp only [Post.then, Post.inBlock]
  refine hK _ ?_; clear hK K
  -- seen
  have hget : s[w.to.toNat]? = some s[w.to.toNat] := List.getElem?_eq_getElem hto
  refine AWp.seq fun K hK => AWp.reg ?_
  iterate 5 (refine AOps.consU fun K' hK' => ?_; simp (disch := omega) only [go_sem, hget, ↓reduceIte]; refine hK' _ ?_; clear hK' K')
  refine AOps.nil ?_
  simp only [Post.then]
  refine hK _ ?_; clear hK K
  -- the deferred call
  refine AWp.seq fun K hK => AWp.reg ?_
  iterate 1 (refine AOps.consU fun K' hK' => ?_; simp (disch := omega) only [go_sem, ↓reduceIte]; refine hK' _ ?_; clear hK' K')
  refine AOps.consC (by simp only [go_sem]) fun K' hK' => ?_
  simp (disch := omega) only [go_sem, ↓reduceIte]
  refine OpT.defer (by rfl) (by rfl) (by rfl) (by rfl) (by simp only [go_sem]) ?_
  simp only [go_sem, ↓reduceIte]; refine hK' _ ?_; clear hK' K'
  refine AOps.nil ?_
  simp only [Post.then]
  refine hK _ ?_; clear hK K
  -- the loop
  refine AWp.seqI (fun _ : Unit => headOn m frm length rounds l all xs k w s m.offers.length) (fun _ => True) ?_ ?_
  rotate_left
  · rintro ⟨⟩ _
    simp only [headOn]
    refine AWp.seq fun K hK => AWp.reg ?_
    iterate 1 (refine AOps.consU fun K' hK' => ?_; simp (disch := omega) only [go_sem, ↓reduceIte]; refine hK' _ ?_; clear hK' K')
    refine AOps.nil ?_
    simp only [Post.then]
    refine hK _ ?_; clear hK K
    refine AWp.ret ?_
    refine on_leave (c := true) (by rfl) rfl hn ⟨ht1, ht2⟩ hf ⟨⟨rfl, rfl, rfl, rfl, trivial⟩, .inl ⟨rfl, ?_⟩⟩
    rw [ysOf_all]
  refine AWp.seq fun K hK => AWp.reg ?_
  iterate 4 (refine AOps.consU fun K' hK' => ?_; simp (disch := omega) only [go_sem, ↓reduceIte]; refine hK' _ ?_; clear hK' K')
  refine AOps.nil ?_
  simp only [Post.then]
  refine hK _ ?_; clear hK K
  refine AWp.block ?_
  refine AWp.loopI (fun i : Nat => headOn m frm length rounds l all xs k w s i) (fun i => i ≤ m.offers.length) (fun i => m.offers.length - i) 0 (Nat.zero_le _) ?_ ?_
  · refine Sub.mk ⟨rfl, rfl, rfl, rfl, rfl, rfl, rfl, rfl, rfl, trivial⟩ ⟨rfl, rfl, rfl, rfl, rfl, trivial⟩ ⟨trivial, trivial, trivial, rfl, rfl, rfl, trivial, trivial, trivial, trivial⟩ (heapIn_refs ..) ⟨rfl, ?_, ?_⟩
    · simp only [headOn, heapIn, go_sem, ↓reduceIte]
    · simp [headOn, ysOf_zero, lenc]
  · intro i hi
    simp only [headOn, heapIn]
    refine AWp.seq fun K hK => AWp.reg ?_
    iterate 1 (refine AOps.consU fun K' hK' => ?_; simp (disch := omega) only [go_sem, ↓reduceIte]; refine hK' _ ?_; clear hK' K')
    refine AOps.nil ?_
    simp only [Post.then]
    refine hK _ ?_; clear hK K
    refine AWp.seq fun K hK => ?_
    refine AWp.cond (b := decide ((i : Int) < m.offers.length)) (by rfl) (fun hb => ?_) (fun hb => ?_)
    rotate_left
    · have hi2 : i = m.offers.length := by
        have : ¬ (i : Int) < m.offers.length := by simpa using hb
        omega
      subst hi2
      refine AWp.exit ?_
      simp only [Post.then, Post.inBlock, ↓reduceIte]
      refine ⟨(), trivial, ?_⟩
      exact Sub.mk ⟨rfl, rfl, rfl, rfl, rfl, rfl, rfl, rfl, rfl, trivial⟩ ⟨rfl, rfl, rfl, rfl, rfl, trivial⟩ ⟨trivial, trivial, trivial, rfl, rfl, rfl, trivial, trivial, trivial, trivial⟩ (heapIn_refs ..) ⟨rfl, by simp only [headOn, heapIn, go_sem, ↓reduceIte], rfl⟩
    have hi2 : i < m.offers.length := by
      have : (i : Int) < m.offers.length := by simpa using hb
      omega
    obtain ⟨o, ho⟩ : ∃ o, m.offers[i]? = some o := ⟨_, List.getElem?_eq_getElem hi2⟩
    have hgo : goodOffer m.n o = true := by
      simp only [walksPre, Bool.and_eq_true, List.all_eq_true] at hpre
      exact hpre.2 o (List.mem_of_getElem? ho)
    have hyd : ∀ (σ' : St), Sub G 94 σ' (headOn m frm length rounds l all xs k w s (i + 1)) → ∃ i', i' ≤ m.offers.length ∧ m.offers.length - i' < m.offers.length - i ∧ Sub G 94 σ' (headOn m frm length rounds l all xs k w s i') := fun σ' h => ⟨i + 1, by omega, by omega, h⟩
    refine AWp.skip ?_
    simp only [Post.then, Post.inBlock]
    refine hK _ ?_; clear hK K
    refine AWp.seq fun K hK => ?_
    refine AWp.block ?_
    refine AWp.seq fun K2 hK2 => AWp.reg ?_
    iterate 6 (refine AOps.consU fun K' hK' => ?_; simp (disch := omega) only [go_sem, ho, Int.toNat_natCast, ↓reduceIte]; refine hK' _ ?_; clear hK' K')
    refine AOps.nil ?_
    simp only [Post.then]
    refine hK2 _ ?_; clear hK2 K2
    refine AWp.seq fun K2 hK2 => AWp.reg ?_
    iterate 7 (refine AOps.consU fun K' hK' => ?_; simp (disch := omega) only [go_sem, ↓reduceIte]; refine hK' _ ?_; clear hK' K')
    refine AOps.nil ?_
    simp only [Post.then]
    refine hK2 _ ?_; clear hK2 K2
    refine AWp.seq fun K2 hK2 => ?_
    refine AWp.seq fun K3 hK3 => AWp.reg ?_
    simp only [goodOffer, decide_eq_true_eq] at hgo
    obtain ⟨hg1, hg2, hg3, hg4, hg5, hg6, hg7, hg8⟩ := hgo
    have hto2 : o.To.toNat < (s.set w.to.toNat true).length := by rw [List.length_set, hn]; omega
    have hse : (s.set w.to.toNat true)[o.To.toNat]? = some ((s.set w.to.toNat true).getD o.To.toNat false) := by
      simp only [List.getD, List.getElem?_eq_getElem hto2, Option.getD_some]
    have hwl : w.list.length ≤ 1000 := by
      have := hk.k1
      simp only [walksPre, Bool.and_eq_true, decide_eq_true_eq] at hpre
      omega
    have hra : m_rate_ratio o.Num o.Den = some (ratioN o.Num o.Den) := ratio_some _ _ ⟨hg5, by omega⟩ ⟨hg7, by omega⟩
    have hgcd : 0 < Int.gcd o.Num o.Den := Int.gcd_pos_of_ne_zero_left _ (by omega)
    have hrn : 1 ≤ (ratioN o.Num o.Den).Num ∧ (ratioN o.Num o.Den).Num ≤ 50 ∧ 1 ≤ (ratioN o.Num o.Den).Den ∧ (ratioN o.Num o.Den).Den ≤ 50 := ratioN_bounds ⟨hg5, hg6⟩ ⟨hg7, hg8⟩
    have hp6 : (50 : Int) ^ w.list.length ≤ 15625000000 := by
      have hl : w.list.length ≤ 5 := by
        have := hk.k1
        simp only [walksPre, Bool.and_eq_true, decide_eq_true_eq] at hpre
        omega
      have : ∀ n : Nat, n ≤ 5 → (50 : Int) ^ n ≤ 15625000000 := by decide
      exact this _ hl
    have hti : m_rate_times w.rate (ratioN o.Num o.Den) = some (timesN w.rate (ratioN o.Num o.Den)) := by
      have b1 := hk.num1
      have b2 := hk.num2
      have b3 := hk.den1
      have b4 := hk.den2
      have m1 := mul_bounds (x := w.rate.Num) (y := (ratioN o.Num o.Den).Num) (a := 15625000000) (b := 50) ⟨by omega, by omega⟩ ⟨by omega, by omega⟩
      have m2 := mul_bounds (x := w.rate.Den) (y := (ratioN o.Num o.Den).Den) (a := 15625000000) (b := 50) ⟨by omega, by omega⟩ ⟨by omega, by omega⟩
      exact times_some _ _ ⟨by omega, by omega⟩ ⟨by omega, by omega⟩ ⟨by omega, by omega⟩ ⟨by omega, by omega⟩ (by omega) (by omega)
    have wl : IntKind.i64.wrap (length - 1) = length - 1 := by
      simp only [walksPre, Bool.and_eq_true, decide_eq_true_eq] at hpre
      exact wrap_i64_eq (by omega)
    have hlen2 : o.To < ((m.n.toNat : Nat) : Int) := by omega
    refine AOps.cut 25 (⟨[(1, .dptr 1 [.int .i64 length] 0 0), (2, .dptr 1 [.int .i64 frm] 0 0), (3, .dptr 1 [.bool rounds] 0 0), (5, .ptr 2 0 0), (7, .ptr 4 0 0), (8, .ptr 1000 0 0), (10, .d (.int .i64 i)), (11, .ptr 1001 0 0), (35, .d (.imm 4 (lenc Offer.pd m.offers))), (36, .d (.int .i64 m.offers.length)), (37, .d (.int .i64 i)), (72, .d (.bool (walkSkip frm length rounds w (s.set w.to.toNat true) o)))],
      heapIn m frm length rounds l m.n.toNat (s.set w.to.toNat true) w ++ [(1001, ⟨43, 4, [.d o.pd]⟩)], [.func (.func 95) [.ptr 2 0 0, .ptr 1000 0 0]], some (l, all, xs ++ lenc Walk.pd (ysOf m.offers frm length rounds k w s i), true)⟩) ?_ ?_
    · simp only [List.take_succ_cons, List.take_zero]
      rcases Bool.eq_false_or_eq_true (decide (¬o.From = w.to)) with c1 | c1
      · have hsk : walkSkip frm length rounds w (s.set w.to.toNat true) o = true := by simp only [walkSkip, c1, Bool.true_or]
        rw [hsk]
        iterate 25 (refine AOps.consU fun K' hK' => ?_; simp (disch := omega) only [go_sem, hse, c1, ↓reduceIte]; refine hK' _ ?_; clear hK' K')
        refine AOps.nil ?_
        exact Sub.mk ⟨rfl, rfl, rfl, rfl, rfl, rfl, rfl, rfl, rfl, rfl, rfl, rfl, trivial⟩ ⟨rfl, rfl, rfl, rfl, rfl, rfl, trivial⟩ ⟨trivial, trivial, trivial, rfl, rfl, rfl, trivial, rfl, trivial, trivial, trivial, trivial, trivial⟩ (by simp only [heapIn, capsOn, go_sem, ↓reduceIte]) ⟨rfl, by simp only [heapIn, go_sem, ↓reduceIte], rfl⟩
      rcases Bool.eq_false_or_eq_true ((s.set w.to.toNat true).getD o.To.toNat false) with c2 | c2
      rotate_left
      · have hsk : walkSkip frm length rounds w (s.set w.to.toNat true) o = false := by simp only [walkSkip, c1, c2, Bool.false_and, Bool.or_false]
        rw [hsk]
        iterate 25 (refine AOps.consU fun K' hK' => ?_; simp (disch := omega) only [go_sem, hse, c1, c2, ↓reduceIte]; refine hK' _ ?_; clear hK' K')
        refine AOps.nil ?_
        exact Sub.mk ⟨rfl, rfl, rfl, rfl, rfl, rfl, rfl, rfl, rfl, rfl, rfl, rfl, trivial⟩ ⟨rfl, rfl, rfl, rfl, rfl, rfl, trivial⟩ ⟨trivial, trivial, trivial, rfl, rfl, rfl, trivial, rfl, trivial, trivial, trivial, trivial, trivial⟩ (by simp only [heapIn, capsOn, go_sem, ↓reduceIte]) ⟨rfl, by simp only [heapIn, go_sem, ↓reduceIte], rfl⟩
      rcases Bool.eq_false_or_eq_true rounds with c3 | c3
      rotate_left
      · subst c3
        have hsk : walkSkip frm length false w (s.set w.to.toNat true) o = true := by simp only [walkSkip, c1, c2, Bool.false_and, Bool.not_false, Bool.and_true, Bool.or_true]
        rw [hsk]
        iterate 25 (refine AOps.consU fun K' hK' => ?_; simp (disch := omega) only [go_sem, hse, c1, c2, ↓reduceIte]; refine hK' _ ?_; clear hK' K')
        refine AOps.nil ?_
        exact Sub.mk ⟨rfl, rfl, rfl, rfl, rfl, rfl, rfl, rfl, rfl, rfl, rfl, rfl, trivial⟩ ⟨rfl, rfl, rfl, rfl, rfl, rfl, trivial⟩ ⟨trivial, trivial, trivial, rfl, rfl, rfl, trivial, rfl, trivial, trivial, trivial, trivial, trivial⟩ (by simp only [heapIn, capsOn, go_sem, ↓reduceIte]) ⟨rfl, by simp only [heapIn, go_sem, ↓reduceIte], rfl⟩
      subst c3
      rcases Bool.eq_false_or_eq_true (decide ((w.list.length : Int) = length - 1)) with c4 | c4
      rotate_left
      · have hsk : walkSkip frm length true w (s.set w.to.toNat true) o = true := by simp only [walkSkip, c1, c2, c4, Bool.and_false, Bool.false_and, Bool.not_false, Bool.and_true, Bool.or_true]
        rw [hsk]
        iterate 25 (refine AOps.consU fun K' hK' => ?_; simp (disch := omega) only [go_sem, hse, c1, c2, c4, wl, ↓reduceIte]; refine hK' _ ?_; clear hK' K')
        refine AOps.nil ?_
        exact Sub.mk ⟨rfl, rfl, rfl, rfl, rfl, rfl, rfl, rfl, rfl, rfl, rfl, rfl, trivial⟩ ⟨rfl, rfl, rfl, rfl, rfl, rfl, trivial⟩ ⟨trivial, trivial, trivial, rfl, rfl, rfl, trivial, rfl, trivial, trivial, trivial, trivial, trivial⟩ (by simp only [heapIn, capsOn, go_sem, ↓reduceIte]) ⟨rfl, by simp only [heapIn, go_sem, ↓reduceIte], rfl⟩
      · have hsk : walkSkip frm length true w (s.set w.to.toNat true) o = !(decide (o.To = frm)) := by simp only [walkSkip, c1, c2, c4, Bool.true_and, Bool.and_true, Bool.false_or]
        rw [hsk]
        iterate 25 (refine AOps.consU fun K' hK' => ?_; simp (disch := omega) only [go_sem, hse, c1, c2, c4, wl, ↓reduceIte]; refine hK' _ ?_; clear hK' K')
        refine AOps.nil ?_
        exact Sub.mk ⟨rfl, rfl, rfl, rfl, rfl, rfl, rfl, rfl, rfl, rfl, rfl, rfl, trivial⟩ ⟨rfl, rfl, rfl, rfl, rfl, rfl, trivial⟩ ⟨trivial, trivial, trivial, rfl, rfl, rfl, trivial, rfl, trivial, trivial, trivial, trivial, trivial⟩ (by simp only [heapIn, capsOn, go_sem, ↓reduceIte]) ⟨rfl, by simp only [heapIn, go_sem, ↓reduceIte], rfl⟩
    simp only [List.drop_succ_cons, List.drop_zero, heapIn, List.cons_append, List.nil_append]
    refine AOps.nil ?_
    simp only [Post.then]
    refine hK3 _ ?_; clear hK3 K3
    refine AWp.cond (b := walkSkip frm length rounds w (s.set w.to.toNat true) o) (by rfl) (fun hb => ?_) (fun hb => ?_)
    · refine AWp.exit ?_
      simp only [Post.then, Post.inBlock, ↓reduceIte]
      refine hK _ ?_; clear hK2 K2 hK K
      refine AWp.reg ?_
      iterate 2 (refine AOps.consU fun K' hK' => ?_; simp (disch := omega) only [go_sem, ↓reduceIte]; refine hK' _ ?_; clear hK' K')
      refine AOps.nil ?_
      simp only [Post.then]
      refine hyd _ ?_
      have hys : ysOf m.offers frm length rounds k w s (i + 1) = ysOf m.offers frm length rounds k w s i := by
        rw [ysOf_succ ho]; simp only [addOf, hb, if_true, List.append_nil]
      have hwi : IntKind.i64.wrap ((i : Int) + 1) = ((i + 1 : Nat) : Int) := by
        simp only [walksPre, Bool.and_eq_true, decide_eq_true_eq] at hpre
        rw [wrap_i64_eq (by omega)]; omega
      rw [hwi]
      exact Sub.mk ⟨rfl, rfl, rfl, rfl, rfl, rfl, rfl, rfl, rfl, trivial⟩ ⟨rfl, rfl, rfl, rfl, rfl, trivial⟩ ⟨trivial, trivial, trivial, rfl, rfl, rfl, trivial, trivial, trivial, trivial⟩ (heapIn_refs ..) ⟨rfl, by simp only [headOn, heapIn, go_sem, ↓reduceIte], by simp only [headOn, hys]⟩
    · refine AWp.skip ?_
      simp only [Post.then, Post.inBlock]
      refine hK2 _ ?_; clear hK2 K2
      refine AWp.seq fun K2 hK2 => AWp.draw mo [(1002, [76, 79, 90])] ⟨by rfl, trivial⟩ ?_
      iterate 3 (refine DOps.consU fun K' hK' => ?_; simp (disch := omega) only [go_sem, exE, exOk, Key.among, Cont.rows, rowsOf, rowsOfL, capsOn, false_or, or_true, true_or, or_false, List.contains_cons, List.contains_nil, ↓reduceIte]; refine hK' _ _ ?_; clear hK' K'; simp only [List.nil_append, List.cons_append])
      refine DOps.consC fun K' hK' => ?_
      simp (disch := omega) only [go_sem, ↓reduceIte]
      refine OpX.callRow 1002 (by rfl) (by rfl) (by kernel_rfl) (clone_fn w.list hwl) (by exact ⟨rfl, trivial⟩) (by simp only [go_sem, ↓reduceIte]) (by rfl) (by decide) (by simp only [go_sem, exE, exOk, Key.among, Cont.rows, rowsOf, rowsOfL, capsOn, false_or, or_true, true_or, or_false, List.contains_cons, List.contains_nil, ↓reduceIte]) ?_
      simp (disch := omega) only [go_sem, ↓reduceIte]; refine hK' _ _ ?_; clear hK' K'; simp only [List.nil_append, List.cons_append]
      iterate 1 (refine DOps.consU fun K' hK' => ?_; simp (disch := omega) only [go_sem, exE, exOk, Key.among, Cont.rows, rowsOf, rowsOfL, capsOn, false_or, or_true, true_or, or_false, List.contains_cons, List.contains_nil, ↓reduceIte]; refine hK' _ _ ?_; clear hK' K'; simp only [List.nil_append, List.cons_append])
      refine DOps.consLU fun K' hK' => ?_; simp (disch := omega) only [go_sem, exE, exOk, Key.among, Cont.rows, rowsOf, rowsOfL, capsOn, false_or, or_true, true_or, or_false, List.contains_cons, List.contains_nil, ↓reduceIte]; refine hK' _ _ ?_; clear hK' K'; simp only [List.nil_append, List.cons_append]
      refine DOps.consC fun K' hK' => ?_
      simp (disch := omega) only [go_sem, ↓reduceIte]
      refine OpX.app (r := 1002) (n := w.list.length) (L := [.d (.int .i64 (i : Int))]) (S := [76, 79, 90]) (by rfl) (by rfl) (by rfl) (by rfl) (by rfl) (by decide) se27 T3_ok (by rfl) (by rfl) (by simp only [go_sem, ↓reduceIte]) (by simp only [go_sem]) (by rfl) (by simp only [go_sem]) (by decide) (by simp only [List.length_singleton]; omega) (by simp only [List.length_singleton, go_sem]; omega) (.inl ⟨rfl, rfl⟩) (by rfl) (by rfl) (by decide) (by simp only [leadOnly, go_sem, rowsOf, exE, exOk, Key.among, Cont.rows, rowsOf, rowsOfL, capsOn, false_or, or_true, true_or, or_false, List.contains_cons, List.contains_nil, ↓reduceIte]) (by simp only [go_sem]) (by rfl) (by rfl) (by simp only [go_sem, dl_rows, exE, exOk, Key.among, Cont.rows, rowsOf, rowsOfL, capsOn, false_or, or_true, true_or, or_false, List.contains_cons, List.contains_nil, ↓reduceIte]) ?_
      simp (disch := omega) only [go_sem, ↓reduceIte]; refine hK' _ _ ?_; clear hK' K'; simp only [List.nil_append, List.cons_append]
      iterate 6 (refine DOps.consU fun K' hK' => ?_; simp (disch := omega) only [go_sem, exE, exOk, Key.among, Cont.rows, rowsOf, rowsOfL, capsOn, false_or, or_true, true_or, or_false, List.contains_cons, List.contains_nil, dl_rows, ↓reduceIte]; refine hK' _ _ ?_; clear hK' K'; simp only [List.nil_append, List.cons_append])
      refine DOps.consC fun K' hK' => ?_
      simp (disch := omega) only [go_sem, ↓reduceIte]
      refine OpX.call (by rfl) (by rfl) (by kernel_rfl) (m_rate_ratio_ok o.Num o.Den _ hra) (by exact ⟨rfl, rfl, trivial⟩) (by simp only [go_sem, ↓reduceIte]) (by simp only [go_sem]) (by simp only [go_sem, exE, exOk, Key.among, Cont.rows, rowsOf, rowsOfL, capsOn, false_or, or_true, true_or, or_false, List.contains_cons, List.contains_nil, dl_rows, ↓reduceIte]) ?_
      simp (disch := omega) only [go_sem, ↓reduceIte]; refine hK' _ _ ?_; clear hK' K'; simp only [List.nil_append, List.cons_append]
      refine DOps.consC fun K' hK' => ?_
      simp (disch := omega) only [go_sem, ↓reduceIte]
      refine OpX.call (by rfl) (by rfl) (by kernel_rfl) (m_rate_times_ok w.rate (ratioN o.Num o.Den) _ hti) (by exact ⟨rfl, rfl, trivial⟩) (by simp only [go_sem, ↓reduceIte]) (by simp only [go_sem]) (by simp only [go_sem, exE, exOk, Key.among, Cont.rows, rowsOf, rowsOfL, capsOn, false_or, or_true, true_or, or_false, List.contains_cons, List.contains_nil, dl_rows, ↓reduceIte]) ?_
      simp (disch := omega) only [go_sem, ↓reduceIte]; refine hK' _ _ ?_; clear hK' K'; simp only [List.nil_append, List.cons_append]
      iterate 3 (refine DOps.consU fun K' hK' => ?_; simp (disch := omega) only [go_sem, exE, exOk, Key.among, Cont.rows, rowsOf, rowsOfL, capsOn, false_or, or_true, true_or, or_false, List.contains_cons, List.contains_nil, dl_rows, ↓reduceIte]; refine hK' _ _ ?_; clear hK' K'; simp only [List.nil_append, List.cons_append])
      refine DOps.stop (by kernel_rfl) ?_
      have hlst : lstD 1 (lenc (PD.int .i64) (w.list ++ [(i : Int)])) = .imm 1 (lenc (PD.int .i64) (w.list ++ [(i : Int)])) := by
        cases w.list <;> rfl
      have hpd : Walk.pd ⟨w.list ++ [(i : Int)], timesN w.rate (ratioN o.Num o.Den), o.To⟩ = .agg [.imm 1 (lenc (PD.int .i64) (w.list ++ [(i : Int)])), .int .i64 (timesN w.rate (ratioN o.Num o.Den)).Num, .int .i64 (timesN w.rate (ratioN o.Num o.Den)).Den, .int .i64 o.To] := by
        simp only [Walk.pd, hlst]
      refine AOps.sub (τ := ⟨[(1, .dptr 1 [.int .i64 length] 0 0), (2, .dptr 1 [.int .i64 frm] 0 0), (3, .dptr 1 [.bool rounds] 0 0), (5, .ptr 2 0 0), (7, .ptr 4 0 0), (8, .ptr 1000 0 0), (35, .d (.imm 4 (lenc Offer.pd m.offers))), (36, .d (.int .i64 m.offers.length)), (37, .d (.int .i64 i)), (73, .func (.func 94) (capsOn m frm length rounds)), (90, .d (Walk.pd ⟨w.list ++ [(i : Int)], timesN w.rate (ratioN o.Num o.Den), o.To⟩))],
        heapIn m frm length rounds l m.n.toNat (s.set w.to.toNat true) w, [.func (.func 95) [.ptr 2 0 0, .ptr 1000 0 0]], some (l, all, xs ++ lenc Walk.pd (ysOf m.offers frm length rounds k w s i), true)⟩)
        (Sub.cv ⟨rfl, rfl, rfl, rfl, rfl, trivial⟩ ⟨.inl ⟨leV_refl _, trivial⟩, .inl ⟨leV_refl _, trivial⟩, .inl ⟨leV_refl _, trivial⟩, .inl ⟨leV_refl _, rfl⟩, .inl ⟨leV_refl _, rfl⟩, .inl ⟨leV_refl _, rfl⟩, .inl ⟨leV_refl _, trivial⟩, .inl ⟨leV_refl _, trivial⟩, .inl ⟨leV_refl _, trivial⟩, .inl ⟨leV_refl _, by simp only [heapIn, capsOn, go_sem, ↓reduceIte]⟩, .inr ⟨.d (Walk.pd ⟨w.list ++ [(i : Int)], timesN w.rate (ratioN o.Num o.Den), o.To⟩), ?_, leV_refl _, ?_⟩, trivial⟩ (heapIn_refs ..) ⟨rfl, by simp only [heapIn, go_sem, ↓reduceIte], rfl⟩) ?_
      · rw [hpd]
        have htk : (w.list ++ [(i : Int)]).take (w.list.length + 1) = w.list ++ [(i : Int)] := List.take_of_length_le (by simp)
        simp only [go_sem, htk, ↓reduceIte]
      · intro r hr
        simp only [go_sem, rowsOf, rowsOfL, List.mem_cons, List.not_mem_nil, or_false, ↓reduceIte] at hr
        subst hr; rfl
      have hadd : addOf m.offers frm length rounds k w s (o, i) = walkOn m.offers frm length rounds k ⟨w.list ++ [(i : Int)], timesN w.rate (ratioN o.Num o.Den), o.To⟩ (s.set w.to.toNat true) := by
        simp only [addOf, hb, Bool.false_eq_true, if_false]
      have hok : OnOk m length ⟨w.list ++ [(i : Int)], timesN w.rate (ratioN o.Num o.Den), o.To⟩ (s.set w.to.toNat true) k := by
        have hk1 := hk.k1
        have htb := timesN_bounds (p := w.rate) (q := ratioN o.Num o.Den) (a := 50 ^ w.list.length) (b := 50) ⟨hk.num1, hk.num2⟩ ⟨hk.den1, hk.den2⟩ ⟨by omega, by omega⟩ ⟨by omega, by omega⟩
        have hll : (w.list ++ [(i : Int)]).length = w.list.length + 1 := by simp
        have hlg : 0 ≤ length := by
          simp only [walksPre, Bool.and_eq_true, decide_eq_true_eq] at hpre
          omega
        refine ⟨by rw [hll]; omega, by omega, by rw [List.length_set]; exact hn, hg3, hg4, htb.1, ?_, htb.2.2.1, ?_, ?_⟩
        · rw [hll, Int.pow_succ]; exact htb.2.1
        · rw [hll, Int.pow_succ]; exact htb.2.2.2
        · rw [hll]
          rcases Bool.eq_false_or_eq_true ((s.set w.to.toNat true).getD o.To.toNat false) with c | c
          · right
            have hb2 := hb
            simp only [walkSkip, c, Bool.true_and, Bool.or_eq_false_iff, Bool.not_eq_false', Bool.and_eq_true, decide_eq_true_eq] at hb2
            have := hb2.2.1.2
            omega
          · left
            rw [hse, c]
      have hpf : (xs ++ lenc Walk.pd (ysOf m.offers frm length rounds k w s i)) ++ lenc Walk.pd (walkOn m.offers frm length rounds k ⟨w.list ++ [(i : Int)], timesN w.rate (ratioN o.Num o.Den), o.To⟩ (s.set w.to.toNat true)) <+: all := by
        obtain ⟨r, hr⟩ := ysOf_pre (offers := m.offers) (frm := frm) (length := length) (rounds := rounds) (k := k) (w := w) (s := s) (i := i + 1)
        rw [ysOf_succ ho, hadd] at hr
        refine List.IsPrefix.trans ⟨lenc Walk.pd r, ?_⟩ hall
        rw [hr]; simp [lenc]
      simp only [heapIn]
      refine AOps.consC (by simp only [go_sem, ↓reduceIte]) fun K' hK' => ?_
      simp (disch := omega) only [go_sem, ↓reduceIte]
      refine OpT.callG (H := heapOn m frm length rounds l m.n.toNat (s.set w.to.toNat true)) (g := id) (gc := some (l, all, xs ++ lenc Walk.pd (ysOf m.offers frm length rounds k w s i), true)) (by rfl) (by rfl) (by rfl) (by kernel_rfl) (ih _ _ _ hok hpf) (Hand.of ?_ ?_) (.inr rfl) ?_ (by simp only [go_sem, ↓reduceIte]) ?_
      · simp only [go_sem, heapOn, capsOn, Row.ren, renL, PV.ren, dl_ren, id, ↓reduceIte]
      · simp only [go_sem, heapOn, id, ↓reduceIte]
      · simp only [go_sem, heapOn, capsOn, handsOk, handOk, id, ↓reduceIte]
      rintro p H' g' ⟨rfl, hp⟩
      refine ⟨id, Back.of ?_ ?_ ?_, ?_, ?_, ?_⟩
      · simp only [go_sem, heapOn, capsOn, Row.ren, renL, PV.ren, dl_ren, id, dl_length, dl_clean, clean, cleanL, ↓reduceIte]
      · simp only [go_sem, heapOn, id, ↓reduceIte]
      · simp only [go_sem, heapOn, id, ↓reduceIte]
      · rcases hp with ⟨rfl, _⟩ | ⟨_, _, _, rfl, _⟩ <;> trivial
      · rcases hp with ⟨rfl, _⟩ | ⟨_, _, _, rfl, _⟩ <;> trivial
      rcases hp with ⟨rfl, rfl⟩ | ⟨part, rest, hpr, rfl, rfl⟩
      · simp only [go_sem, heapOn, capsOn, hmerge, Row.ren, renL, PV.ren, dl_ren, id, ghBack, ↓reduceIte]; refine hK' _ ?_; clear hK' K'
        iterate 1 (refine AOps.consU fun K' hK' => ?_; simp (disch := omega) only [go_sem, ↓reduceIte]; refine hK' _ ?_; clear hK' K')
        refine AOps.nil ?_
        simp only [Post.then]
        refine hK2 _ ?_; clear hK2 K2
        refine AWp.cond (b := false) (by rfl) (fun hb => by cases hb) (fun _ => ?_)
        refine AWp.skip ?_
        simp only [Post.then, Post.inBlock]
        refine hK _ ?_; clear hK K
        refine AWp.reg ?_
        iterate 2 (refine AOps.consU fun K' hK' => ?_; simp (disch := omega) only [go_sem, ↓reduceIte]; refine hK' _ ?_; clear hK' K')
        refine AOps.nil ?_
        simp only [Post.then]
        refine hyd _ ?_
        have hwi : IntKind.i64.wrap ((i : Int) + 1) = ((i + 1 : Nat) : Int) := by
          simp only [walksPre, Bool.and_eq_true, decide_eq_true_eq] at hpre
          rw [wrap_i64_eq (by omega)]; omega
        rw [hwi]
        exact Sub.mk ⟨rfl, rfl, rfl, rfl, rfl, rfl, rfl, rfl, rfl, trivial⟩ ⟨rfl, rfl, rfl, rfl, rfl, trivial⟩ ⟨trivial, trivial, trivial, rfl, rfl, rfl, trivial, trivial, trivial, trivial⟩ (heapIn_refs ..) ⟨rfl, by simp only [headOn, heapIn, go_sem, ↓reduceIte], by simp only [headOn, ysOf_succ ho, hadd]; simp [lenc]⟩
      · simp only [go_sem, heapOn, capsOn, hmerge, Row.ren, renL, PV.ren, dl_ren, id, ghBack, ↓reduceIte]; refine hK' _ ?_; clear hK' K'
        iterate 1 (refine AOps.consU fun K' hK' => ?_; simp (disch := omega) only [go_sem, ↓reduceIte]; refine hK' _ ?_; clear hK' K')
        refine AOps.nil ?_
        simp only [Post.then]
        refine hK2 _ ?_; clear hK2 K2
        refine AWp.cond (b := true) (by rfl) (fun _ => ?_) (fun hb => by cases hb)
        refine AWp.seq fun K2 hK2 => AWp.reg ?_
        iterate 1 (refine AOps.consU fun K' hK' => ?_; simp (disch := omega) only [go_sem, ↓reduceIte]; refine hK' _ ?_; clear hK' K')
        refine AOps.nil ?_
        simp only [Post.then]
        refine hK2 _ ?_; clear hK2 K2
        refine AWp.ret ?_
        simp only [Post.then, Post.inBlock]
        obtain ⟨r, hr⟩ := ysOf_pre (offers := m.offers) (frm := frm) (length := length) (rounds := rounds) (k := k) (w := w) (s := s) (i := i + 1)
        refine on_leave (c := false) (by rfl) rfl hn ⟨ht1, ht2⟩ hf ⟨⟨rfl, rfl, rfl, rfl, trivial⟩, .inr ⟨lenc Walk.pd (ysOf m.offers frm length rounds k w s i) ++ part, rest ++ lenc Walk.pd r, ?_, rfl, ?_⟩⟩
        · rw [hr, ysOf_succ ho, hadd]
          have : lenc Walk.pd (ysOf m.offers frm length rounds k w s i ++ walkOn m.offers frm length rounds k ⟨w.list ++ [(i : Int)], timesN w.rate (ratioN o.Num o.Den), o.To⟩ (s.set w.to.toNat true) ++ r) = lenc Walk.pd (ysOf m.offers frm length rounds k w s i) ++ lenc Walk.pd (walkOn m.offers frm length rounds k ⟨w.list ++ [(i : Int)], timesN w.rate (ratioN o.Num o.Den), o.To⟩ (s.set w.to.toNat true)) ++ lenc Walk.pd r := by simp [lenc]
          rw [this, hpr]; simp
        · simp
end Go.Pv.Tryd

set_option linter.unusedSimpArgs false
set_option linter.unusedVariables false
namespace Go.Pv.Tryd
open Go.Proofs Go.Pv
theorem on_fn (m : Market) (frm length : Int) (rounds : Bool) (l : Nat) (all : List PD) (hpre : walksPre m frm length rounds = true) : ∀ (k : Nat) (w : Walk) (s : List Bool) (xs : List PD), OnOk m length w s k →
    xs ++ lenc Walk.pd (walkOn m.offers frm length rounds k w s) <+: all →
    FnG Tryd.prog G 94 (.d w.pd :: capsOn m frm length rounds) (heapOn m frm length rounds l m.n.toNat s) (some (l, all, xs, true)) (OnPost (lenc Walk.pd (walkOn m.offers frm length rounds k w s)) (heapOn m frm length rounds l m.n.toNat s) l all xs)
  | 0, w, s, xs, hk, _ => absurd hk.k2 (by omega)
  | k + 1, w, s, xs, hk, hall => by
    by_cases he : (w.list.length : Int) = length
    · exact on_end m frm length rounds l all k w s xs hk he hall
    · exact on_step m frm length rounds l all hpre k w s xs hk he (fun w' s' xs' => on_fn m frm length rounds l all hpre k w' s' xs') hall
@[go_sem] def walkCaps (m : Market) (frm length : Int) (rounds : Bool) : List PV := [.dptr 2 [Market.pd m] 0 0, .dptr 1 [.int .i64 length] 0 0, .dptr 1 [.int .i64 frm] 0 0, .dptr 1 [.bool rounds] 0 0]
theorem walks_seq (m : Market) (frm length : Int) (rounds : Bool) (hpre : walksPre m frm length rounds = true) : SeqFn Tryd.prog G 93 (walkCaps m frm length rounds) (lenc Walk.pd (walksL m frm length rounds)) := by
  intro l
  have hp := hpre
  simp only [walksPre, Bool.and_eq_true, decide_eq_true_eq] at hp
  obtain ⟨⟨hp1, hp2, hp3, hp4, hp5, hp6⟩, hp7⟩ := hp
  have hrep : lenc PD.bool (List.replicate m.n.toNat false) = List.replicate m.n.toNat (PD.bool false) := by simp [lenc]
  have hok : OnOk m length ⟨[], ⟨1, 1⟩, frm⟩ (List.replicate m.n.toNat false) (length.toNat + 1) := by
    refine ⟨by simp, by omega, by simp, hp3, hp4, by simp, by simp, by simp, by simp, .inl ?_⟩
    show (List.replicate m.n.toNat false)[frm.toNat]? = some false
    rw [List.getElem?_replicate, if_pos (by omega)]
  refine FnG.less (R := fun p _ g' => p = .tuple [] ∧ (g' = some (l, lenc Walk.pd (walksL m frm length rounds), lenc Walk.pd (walksL m frm length rounds), true) ∨ ∃ part rest, lenc Walk.pd (walksL m frm length rounds) = part ++ rest ∧ g' = some (l, lenc Walk.pd (walksL m frm length rounds), part, false))) ?_ ?_
  rotate_left
  · rintro p H' g' ⟨rfl, h⟩
    exact ⟨[], trivial, trivial, trivial, rfl, h⟩
  refine FnG.introD Tryd.func93 (by rfl) (by rw [Tryd.ntmps93]; simp [walkCaps]) ?_
  rw [Tryd.ntmps93]
  simp only [argEnv, walkCaps, Nat.reduceAdd]
  refine AWp.seq fun K hK => AWp.reg ?_
  iterate 1 (refine AOps.consU fun K' hK' => ?_; simp (disch := omega) only [go_sem, ↓reduceIte]; refine hK' _ ?_; clear hK' K')
  refine AOps.nil ?_
  simp only [Post.then]
  refine hK _ ?_; clear hK K
  refine AWp.seq fun K hK => AWp.reg ?_
  iterate 5 (refine AOps.consU fun K' hK' => ?_; simp (disch := omega) only [go_sem, ↓reduceIte]; refine hK' _ ?_; clear hK' K')
  refine AOps.nil ?_
  simp only [Post.then]
  refine hK _ ?_; clear hK K
  refine AWp.seq fun K hK => AWp.reg ?_
  iterate 1 (refine AOps.consU fun K' hK' => ?_; simp (disch := omega) only [go_sem, ↓reduceIte]; refine hK' _ ?_; clear hK' K')
  refine AOps.nil ?_
  simp only [Post.then]
  refine hK _ ?_; clear hK K
  refine AWp.seq fun K hK => AWp.reg ?_
  iterate 2 (refine AOps.consU fun K' hK' => ?_; simp (disch := omega) only [go_sem, ↓reduceIte]; refine hK' _ ?_; clear hK' K')
  refine AOps.nil ?_
  simp only [Post.then]
  refine hK _ ?_; clear hK K
  refine AWp.reg ?_
  iterate 4 (refine AOps.consU fun K' hK' => ?_; simp (disch := omega) only [go_sem, ↓reduceIte]; refine hK' _ ?_; clear hK' K')
  refine AOps.consC (by simp only [go_sem, ↓reduceIte]) fun K' hK' => ?_
  simp (disch := omega) only [go_sem, ↓reduceIte]
  have hf := on_fn m frm length rounds l (lenc Walk.pd (walksL m frm length rounds)) hpre (length.toNat + 1) ⟨[], ⟨1, 1⟩, frm⟩ (List.replicate m.n.toNat false) [] hok (by rw [List.nil_append]; exact List.prefix_refl _)
  refine OpT.callG (H := heapOn m frm length rounds l m.n.toNat (List.replicate m.n.toNat false)) (g := renOf [(1, 1000), (2, 1002), (3, 1001), (4, 1003)]) (gc := some (l, lenc Walk.pd (walksL m frm length rounds), [], true)) (by rfl) (by rfl) (by rfl) (by kernel_rfl) hf (Hand.of ?_ ?_) (.inr rfl) ?_ (by simp only [go_sem, ↓reduceIte]) ?_
  · simp only [go_sem, heapOn, capsOn, Row.ren, renL, PV.ren, dl_ren, Walk.pd, ↓reduceIte]
  · simp only [go_sem, heapOn, ↓reduceIte]
  · simp only [go_sem, handsOk, handOk, heapOn, capsOn, lstD, lenc, Walk.pd, List.map_nil, ↓reduceIte]
  rintro p H' g' ⟨rfl, hp⟩
  refine ⟨renOf [(1, 1000), (2, 1002), (3, 1001), (4, 1003)], Back.of ?_ ?_ ?_, ?_, ?_, ?_⟩
  · simp only [go_sem, heapOn, capsOn, Row.ren, renL, PV.ren, dl_ren, dl_length, dl_clean, clean, cleanL, ↓reduceIte]
  · simp only [go_sem, heapOn, ↓reduceIte]
  · simp only [go_sem, heapOn, ↓reduceIte]
  · rcases hp with ⟨rfl, _⟩ | ⟨_, _, _, rfl, _⟩ <;> trivial
  · rcases hp with ⟨rfl, _⟩ | ⟨_, _, _, rfl, _⟩ <;> trivial
  simp only [go_sem, heapOn, capsOn, hmerge, Row.ren, renL, PV.ren, dl_ren, ghBack, ↓reduceIte]; refine hK' _ ?_; clear hK' K'
  refine AOps.nil ?_
  simp only [Fin1]
  refine .inl ⟨.tuple [], ?_, by first | exact True.intro | rfl, rfl, ?_⟩
  · simp only [go_sem, Tryd.results93, ↓reduceIte]
  · rcases hp with ⟨_, rfl⟩ | ⟨part, rest, h1, _, rfl⟩
    · exact .inl rfl
    · exact .inr ⟨part, rest, h1, rfl⟩
theorem walks_fn (m : Market) (frm length : Int) (rounds : Bool) : PureFn Tryd.prog G 80 [.d (Market.pd m), .d (.int .i64 frm), .d (.int .i64 length), .d (.bool rounds)] (.func (.func 93) (walkCaps m frm length rounds)) := by
  refine PureFn.intro2 Tryd.func80 (by rfl) (by rw [Tryd.ntmps80]; simp) ?_
  rw [Tryd.ntmps80]
  simp only [argEnv, Nat.reduceAdd]
  refine AWp.seq fun K hK => AWp.reg ?_
  iterate 5 (refine AOps.consU fun K' hK' => ?_; simp (disch := omega) only [go_sem, ↓reduceIte]; refine hK' _ ?_; clear hK' K')
  refine AOps.nil ?_
  simp only [Post.then]
  refine hK _ ?_; clear hK K
  refine AWp.seq fun K hK => AWp.reg ?_
  iterate 2 (refine AOps.consU fun K' hK' => ?_; simp (disch := omega) only [go_sem, ↓reduceIte]; refine hK' _ ?_; clear hK' K')
  refine AOps.nil ?_
  simp only [Post.then]
  refine hK _ ?_; clear hK K
  refine AWp.ret ?_
  simp only [Go.Pv.Fin, Go.Pv.FinG]
  refine ⟨.func (.func 93) [.ptr 1000 0 0, .ptr 1002 0 0, .ptr 1001 0 0, .ptr 1003 0 0], ?_, True.intro, _, rfl, ?_⟩
  · simp only [go_sem, Tryd.results80, ↓reduceIte]
  · exact leV_refl _
end Go.Pv.Tryd



namespace Go.Pv.Tryd
open Go.Proofs Go.Pv
theorem m_rate_above_ok (a1 : Ratio) (b1 : Ratio) (r : Bool) (h : m_rate_above a1 b1 = some r) : PureFn Tryd.prog G 56 [.d (.agg [(.int .i64 a1.Num), (.int .i64 a1.Den)]), .d (.agg [(.int .i64 b1.Num), (.int .i64 b1.Den)])] (.d (.bool r)) := by
 unfold m_rate_above at h
 refine pf Tryd.func56 Tryd.ntmps56 ?_
 refine sg fun K k => ?_
 iterate 3 refine oo ?_
 refine AOps.nil (k _ ?_)
 refine sg fun K k => ?_
 iterate 12 refine oo ?_
 refine AOps.nil (k _ ?_)
 refine AWp.ret ?_
 cases h; exact rt
end Go.Pv.Tryd

namespace Go.Pv.Tryd
open Go.Proofs Go.Pv
theorem m_cmp_isNaN_ok (x1 : Int) (r : Bool) (h : m_cmp_isNaN x1 = some r) : PureFn Tryd.prog G 113 [.d (.int .i64 x1)] (.d (.bool r)) := by
 unfold m_cmp_isNaN at h
 refine pf Tryd.func113 Tryd.ntmps113 ?_
 refine sg fun K k => ?_
 refine oo ?_
 refine AOps.nil (k _ ?_)
 refine sg fun K k => ?_
 iterate 4 refine oo ?_
 refine AOps.nil (k _ ?_)
 refine AWp.ret ?_
 cases h; exact rt
end Go.Pv.Tryd

namespace Go.Pv.Tryd
open Go.Proofs Go.Pv
theorem m_cmp_Compare_ok (x1 : Int) (y1 : Int) (r : Int) (h : m_cmp_Compare x1 y1 = some r) : PureFn Tryd.prog G 97 [.d (.int .i64 x1), .d (.int .i64 y1)] (.d (.int .i64 r)) := by
 unfold m_cmp_Compare at h
 refine pf Tryd.func97 Tryd.ntmps97 ?_
 refine sg fun K k => ?_
 refine oo ?_
 refine AOps.nil (k _ ?_)
 refine sg fun K k => ?_
 refine oo ?_
 obtain ⟨r1, hx_1, h⟩ := bind_some h
 refine cl (m_cmp_isNaN_ok x1 _ hx_1) ?_
 refine oo ?_
 refine AOps.nil (k _ ?_)
 refine sg fun K k => ?_
 refine oo ?_
 obtain ⟨r2, hx_2, h⟩ := bind_some h
 refine cl (m_cmp_isNaN_ok y1 _ hx_2) ?_
 refine oo ?_
 refine AOps.nil (k _ ?_)
 refine AWp.seq fun _ K_3 => ?_
 refine sg fun K k => ?_
 refine oo ?_
 refine AOps.nil (k _ ?_)
 refine cd h (fun h => ?_) (fun h => ?_)
 ·refine AWp.seq fun _ K_5 => ?_
  refine sg fun K k => ?_
  refine oo ?_
  refine AOps.nil (k _ ?_)
  refine cd h (fun h => ?_) (fun h => ?_)
  ·refine sg fun K k => ?_
   refine oo ?_
   refine AOps.nil (k _ ?_)
   refine AWp.ret ?_
   cases h; exact rt
  ·refine AWp.skip ?_
   refine K_5 _ ?_
   refine sg fun K k => ?_
   refine oo ?_
   refine AOps.nil (k _ ?_)
   refine AWp.ret ?_
   cases h; exact rt
 ·refine AWp.skip ?_
  refine K_3 _ ?_
  refine AWp.seq fun _ K_7 => ?_
  refine sg fun K k => ?_
  refine oo ?_
  refine AOps.nil (k _ ?_)
  refine cd h (fun h => ?_) (fun h => ?_)
  ·refine sg fun K k => ?_
   refine oo ?_
   refine AOps.nil (k _ ?_)
   refine AWp.ret ?_
   cases h; exact rt
  ·refine AWp.skip ?_
   refine K_7 _ ?_
   refine AWp.seq fun _ K_9 => ?_
   refine sg fun K k => ?_
   iterate 3 refine oo ?_
   refine AOps.nil (k _ ?_)
   refine cd h (fun h => ?_) (fun h => ?_)
   ·refine sg fun K k => ?_
    refine oo ?_
    refine AOps.nil (k _ ?_)
    refine AWp.ret ?_
    cases h; exact rt
   ·refine AWp.skip ?_
    refine K_9 _ ?_
    refine AWp.seq fun _ K_11 => ?_
    refine sg fun K k => ?_
    iterate 3 refine oo ?_
    refine AOps.nil (k _ ?_)
    refine cd h (fun h => ?_) (fun h => ?_)
    ·refine sg fun K k => ?_
     refine oo ?_
     refine AOps.nil (k _ ?_)
     refine AWp.ret ?_
     cases h; exact rt
    ·refine AWp.skip ?_
     refine K_11 _ ?_
     refine sg fun K k => ?_
     refine oo ?_
     refine AOps.nil (k _ ?_)
     refine AWp.ret ?_
     cases h; exact rt
end Go.Pv.Tryd

namespace Go.Pv.Tryd
open Go.Proofs Go.Pv
theorem m_slices_Compare_ok (s11 : (List Int)) (s21 : (List Int)) (r : Int) (h : m_slices_Compare s11 s21 = some r) : PureFn Tryd.prog G 81 [.d (.imm 1 (lenc (PD.int .i64) s11)), .d (.imm 1 (lenc (PD.int .i64) s21))] (.d (.int .i64 r)) := by
 unfold m_slices_Compare at h
 refine pf Tryd.func81 Tryd.ntmps81 ?_
 refine sg fun K k => ?_
 refine oo ?_
 refine AOps.nil (k _ ?_)
 refine jm (ι := Unit) [0, 1] [] (fun i t => t) (fun i t => t) .inl h ?_ ?_
 ·intro _ hj_2 h
  refine sg fun K k => ?_
  iterate 3 refine oo ?_
  refine AOps.nil (k _ ?_)
  refine AWp.block ?_
  obtain ⟨x_7, hl_4, h2_5⟩ := bind_some hj_2
  refine lp (S := Int) [0, 1, 9, 10] [] (fun i t => (11, .d (.int .i64 i)) :: t) (fun i t => t) hl_4 ?_ ?_; exact sb; clear hl_4
  rintro v1 _ hb_6; unfold m_slices_Compare_l1 at hb_6; try dsimp only at hb_6
  try dsimp only
  refine sg fun K k => ?_
  refine oo ?_
  refine AOps.nil (k _ ?_)
  refine AWp.seq fun _ K_9 => ?_
  refine cd hb_6 (fun hb_6 => ?_) (fun hb_6 => ?_)
  ·refine AWp.skip ?_
   refine K_9 _ ?_
   refine AWp.seq fun _ K_11 => ?_
   refine AWp.block ?_
   refine sg fun K k => ?_
   obtain ⟨e1, ⟨f_12, f_13, f_14, f_15⟩, hb_6⟩ := idx_bind hb_6
   iterate 2 refine oo ?_
   refine oo ?_ (by intro K k; simp (disch := omega) only [go_sem, f_14, ↓reduceIte]; exact k)
   iterate 2 refine oo ?_
   refine AOps.nil (k _ ?_)
   refine AWp.seq fun _ K_16 => ?_
   refine sg fun K k => ?_
   iterate 4 refine oo ?_
   refine AOps.nil (k _ ?_)
   refine cd hb_6 (fun hb_6 => ?_) (fun hb_6 => ?_)
   ·refine sg fun K k => ?_
    refine oo ?_
    refine AOps.nil (k _ ?_)
    refine AWp.ret ?_
    refine lx hb_6 fun hx => ?_; cases hx; try dsimp only at h2_5
    cases h2_5; try dsimp only at h
    cases h; exact rt
   ·refine AWp.skip ?_
    refine K_16 _ ?_
    refine sg fun K k => ?_
    obtain ⟨e2, ⟨f_18, f_19, f_20, f_21⟩, hb_6⟩ := idx_bind hb_6
    iterate 3 refine oo ?_
    refine oo ?_ (by intro K k; simp (disch := omega) only [go_sem, f_20, ↓reduceIte]; exact k)
    refine oo ?_
    refine AOps.nil (k _ ?_)
    refine sg fun K k => ?_
    iterate 2 refine oo ?_
    obtain ⟨r1, hx_22, hb_6⟩ := bind_some hb_6
    refine cl (m_cmp_Compare_ok e1 e2 _ hx_22) ?_
    refine oo ?_
    refine AOps.nil (k _ ?_)
    refine sg fun K k => ?_
    iterate 2 refine oo ?_
    refine AOps.nil (k _ ?_)
    refine cd hb_6 (fun hb_6 => ?_) (fun hb_6 => ?_)
    ·refine sg fun K k => ?_
     iterate 2 refine oo ?_
     refine AOps.nil (k _ ?_)
     refine AWp.ret ?_
     refine lx hb_6 fun hx => ?_; cases hx; try dsimp only at h2_5
     cases h2_5; try dsimp only at h
     cases h; exact rt
    ·refine AWp.skip ?_
     refine K_11 _ ?_
     refine AWp.reg ?_
     iterate 2 refine oo ?_
     refine AOps.nil ?_
     exact ln hb_6 sb
  ·refine AWp.exit ?_
   refine lx hb_6 fun hx => ?_; cases hx; try dsimp only at h2_5
   exact ln h2_5 sb
 ·rintro _ h; dsimp only at h ⊢
  refine AWp.seq fun _ K_24 => ?_
  refine sg fun K k => ?_
  iterate 5 refine oo ?_
  refine AOps.nil (k _ ?_)
  refine cd h (fun h => ?_) (fun h => ?_)
  ·refine sg fun K k => ?_
   refine oo ?_
   refine AOps.nil (k _ ?_)
   refine AWp.ret ?_
   cases h; exact rt
  ·refine AWp.skip ?_
   refine K_24 _ ?_
   refine sg fun K k => ?_
   refine oo ?_
   refine AOps.nil (k _ ?_)
   refine AWp.ret ?_
   cases h; exact rt
end Go.Pv.Tryd

namespace Go.Pv.Tryd
open Go.Proofs Go.Pv
theorem m_rate_market_round_ok (m1 : Market) (r : (List Int)) (h : m_rate_market_round m1 = some r) : PureFn Tryd.prog G 54 [.d (.agg [(.int .i64 m1.n), (.imm 4 (lenc Offer.pd m1.offers))])] (.d (lstD 1 (lenc (PD.int .i64) r))) := by
 unfold m_rate_market_round at h
 refine pf Tryd.func54 Tryd.ntmps54 ?_
 refine sg fun K k => ?_
 iterate 2 refine oo ?_
 refine AOps.nil (k _ ?_)
 refine jm (ι := Unit) [] [] (fun i t => t) (fun i t => t) .inl h ?_ ?_
 ·intro _ hj_2 h
  refine sg fun K k => ?_
  refine oo ?_
  refine AOps.nil (k _ ?_)
  refine AWp.block ?_
  obtain ⟨x_7, hl_4, h2_5⟩ := bind_some hj_2
  refine lp (S := Int) [1] [1000] (fun i t => (3, .d (.int .i64 i)) :: t) (fun i t => t) hl_4 ?_ ?_; exact sb; clear hl_4
  rintro length1 _ hb_6; unfold m_rate_market_round_l1 at hb_6; try dsimp only at hb_6
  try dsimp only
  refine AWp.seq fun _ K_9 => ?_
  refine sg fun K k => ?_
  iterate 4 refine oo ?_
  refine AOps.nil (k _ ?_)
  refine cd hb_6 (fun hb_6 => ?_) (fun hb_6 => ?_)
  ·refine AWp.skip ?_
   refine K_9 _ ?_
   refine jm (ι := Unit) [1, 3] [1000] (fun i t => t) (fun i t => t) .inl hb_6 ?_ ?_
   ·intro _ hj_12 hb_6
    refine AWp.block ?_
    refine sg fun K k => ?_
    refine oo ?_
    refine AOps.nil (k _ ?_)
    refine jn (α := (List Int)) [1, 3] [1000] (fun i t => (4, .ptr 1001 0 0) :: t) (fun i t => (1001, ⟨27, 1, [.d (lstD 1 (lenc (PD.int .i64) i))]⟩) :: t) hj_12 ?_ ?_
    ·intro _ hj_14
     refine sg fun K k => ?_
     iterate 3 refine oo ?_
     refine AOps.nil (k _ ?_)
     refine AWp.block ?_
     obtain ⟨x_19, hl_16, h2_17⟩ := bind_some hj_14
     refine lp (S := (Int × (List Int))) [1, 3, 14] [1000] (fun i t => (4, .ptr 1001 0 0) :: (15, .d (.int .i64 i.1)) :: t) (fun i t => (1001, ⟨27, 1, [.d (lstD 1 (lenc (PD.int .i64) i.2))]⟩) :: t) hl_16 ?_ ?_; exact sb; clear hl_16
     rintro ⟨v1, c2⟩ _ hb_18; unfold m_rate_market_round_l2 at hb_18; try dsimp only at hb_18
     try dsimp only
     refine sg fun K k => ?_
     refine oo ?_
     refine AOps.nil (k _ ?_)
     refine AWp.seq fun _ K_21 => ?_
     refine cd hb_18 (fun hb_18 => ?_) (fun hb_18 => ?_)
     ·refine AWp.skip ?_
      refine K_21 _ ?_
      refine jn (α := (List Int)) [1, 3, 14, 15] [1000] (fun i t => (4, .ptr 1001 0 0) :: t) (fun i t => (1001, ⟨27, 1, [.d (lstD 1 (lenc (PD.int .i64) i))]⟩) :: t) hb_18 ?_ ?_
      ·intro _ hj_24
       refine AWp.block ?_
       refine sg fun K k => ?_
       iterate 2 refine oo ?_
       refine AOps.nil (k _ ?_)
       refine sg fun K k => ?_
       iterate 3 refine oo ?_
       obtain ⟨hg_25, hj_24⟩ := guardO_some hj_24
       refine AOps.consU fun K' hK' => ?_; simp (disch := omega) only [go_sem, ↓reduceIte]; refine OpT.call (by rfl) (by rfl) (by kernel_rfl) (walks_fn m1 v1 length1 true) (by exact ⟨rfl, rfl, rfl, rfl, trivial⟩) (by simp only [go_sem, ↓reduceIte]) ?_ (by simp only [go_sem]); simp only [go_sem, ↓reduceIte]; refine hK' _ ?_; clear hK' K'
       refine AOps.nil (k _ ?_)
       refine AWp.block ?_
       refine AWp.sub (τ := ⟨[(1, .ptr 1000 0 0), (3, .d (.int .i64 length1)), (4, .ptr 1001 0 0), (14, .d (.int .i64 m1.n)), (15, .d (.int .i64 v1)), (21, .func (.func 93) [.dptr 2 [(.agg [(.int .i64 m1.n), (.imm 4 (lenc Offer.pd m1.offers))])] 0 0, .dptr 1 [.int .i64 length1] 0 0, .dptr 1 [.int .i64 v1] 0 0, .dptr 1 [.bool true] 0 0])], [(1000, ⟨77, 2, [.d (.agg [(.int .i64 m1.n), (.imm 4 (lenc Offer.pd m1.offers))])]⟩), (1001, ⟨27, 1, [.d (lstD 1 (lenc (PD.int .i64) c2))]⟩)], [], none⟩) sb ?_
       obtain ⟨o_38, hl_39, h2_40⟩ := bind_some hj_24
       refine AWp.rangeL Walk.pd (walksL m1 v1 length1 true) (fun i_43 : (List Int) => [(1000, ⟨77, 2, [.d (.agg [(.int .i64 m1.n), (.imm 4 (lenc Offer.pd m1.offers))])]⟩), (1001, ⟨27, 1, [.d (lstD 1 (lenc (PD.int .i64) i_43))]⟩)]) 4 (fun i_43 : (List Int) => [(1000, ⟨77, 2, [.d (.agg [(.int .i64 m1.n), (.imm 4 (lenc Offer.pd m1.offers))])]⟩), (1001, ⟨27, 1, [.d (lstD 1 (lenc (PD.int .i64) i_43))]⟩)]) (m_rate_market_round_r3) c2 (by rfl) (by simp only [go_sem]) (by kernel_rfl) (walks_seq m1 v1 length1 true hg_25) rfl rfl (by rfl) (by decide) (by simp only [go_sem, clean, cleanL, dl_clean, ↓reduceIte]) (fun _ => by simp only [go_sem, clean, cleanL, dl_clean, ↓reduceIte]) (fun _ => by simp only [go_sem, clean, cleanL, dl_clean, ↓reduceIte]) hl_39 ?_ ?_ ?_
       ·rintro l_29 c4 x1 q_28 hraw_26
        have hb_27 := hraw_26
        unfold m_rate_market_round_r3 at hb_27
        try dsimp only at hb_27
        try dsimp only
        simp only [eput, ↓reduceIte, Nat.reduceEqDiff]
        refine AWp.reg ?_
        iterate 2 refine oo ?_
        refine AOps.nil ?_
        refine AWp.block ?_
        refine sg fun K k => ?_
        iterate 3 refine oo ?_
        obtain ⟨r1, hx_30, hb_27⟩ := bind_some hb_27
        refine cl (m_rate_above_ok x1.rate (⟨1, 1⟩ : Ratio) _ hx_30) ?_
        refine AOps.nil (k _ ?_)
        refine cd hb_27 (fun hb_27 => ?_) (fun hb_27 => ?_)
        ·refine jn (α := (List Int)) [1, 3, 14, 15, 22] [1000] (fun i t => (4, .ptr 1001 0 0) :: t) (fun i t => (1001, ⟨27, 1, [.d (lstD 1 (lenc (PD.int .i64) i))]⟩) :: t) hb_27 ?_ ?_
         ·intro _ hj_33
          refine sg fun K k => ?_
          iterate 3 refine oo ?_
          obtain ⟨b1, hc_34, hj_33⟩ := bind_some hj_33
          refine ct 6 [1, 3, 4, 6, 14, 15, 22] [1000, 1001, 1002] (fun  t => (35, .d (.bool b1)) :: t) ?_ ?_
          ·rcases bt ((c4).isEmpty) with hg_36 | hg_36
           ·rw [hg_36]
            rw [hg_36, cond_true] at hc_34
            iterate 6 refine oo ?_
            refine AOps.nil ?_
            cases hc_34
            exact sb
           ·rw [hg_36]
            rw [hg_36, cond_false] at hc_34
            iterate 3 refine oo ?_
            refine AOps.sub (τ := ⟨[(1, .ptr 1000 0 0), (3, .d (.int .i64 length1)), (4, .ptr 1001 0 0), (6, .ptr 1002 0 0), (14, .d (.int .i64 m1.n)), (15, .d (.int .i64 v1)), (22, .d (.agg [(lstD 1 (lenc (PD.int .i64) x1.list)), (.int .i64 x1.rate.Num), (.int .i64 x1.rate.Den), (.int .i64 x1.to)])), (29, .d (.bool false)), (30, .ptr 1002 0 0), (31, .d (.imm 1 (lenc (PD.int .i64) x1.list))), (32, .d (.imm 1 (lenc (PD.int .i64) c4)))], [(1000, ⟨77, 2, [.d (.agg [(.int .i64 m1.n), (.imm 4 (lenc Offer.pd m1.offers))])]⟩), (1001, ⟨27, 1, [.d (lstD 1 (lenc (PD.int .i64) c4))]⟩), (1002, ⟨83, 4, [.d (.agg [(lstD 1 (lenc (PD.int .i64) x1.list)), (.int .i64 x1.rate.Num), (.int .i64 x1.rate.Den), (.int .i64 x1.to)])]⟩)], [.func (.func 0) (envL [(1, .ptr 1000 0 0), (3, .d (.int .i64 length1)), (4, .ptr 1001 0 0), (14, .d (.int .i64 m1.n)), (15, .d (.int .i64 v1)), (21, .func (.func 93) [.dptr 2 [(.agg [(.int .i64 m1.n), (.imm 4 (lenc Offer.pd m1.offers))])] 0 0, .dptr 1 [.int .i64 length1] 0 0, .dptr 1 [.int .i64 v1] 0 0, .dptr 1 [.bool true] 0 0])])], none⟩) sc ?_
            obtain ⟨r2, hx_35, hc_34⟩ := bind_some hc_34
            refine cl (m_slices_Compare_ok x1.list c4 _ hx_35) ?_
            iterate 2 refine oo ?_
            refine AOps.nil ?_
            cases hc_34
            exact sb
          refine AOps.nil (k _ ?_)
          refine cd hj_33 (fun hj_33 => ?_) (fun hj_33 => ?_)
          ·refine AWp.reg ?_
           iterate 3 refine oo ?_
           refine AOps.nil ?_
           cases hj_33; exact sb
          ·refine AWp.skip ?_
           cases hj_33; exact sb
         ·rintro c5 hb_27; dsimp only at hb_27 ⊢
          refine AWp.exit ?_
          show _ = _ ∧ ∃ y, _ = some (Sum.inr y) ∧ _
          exact ⟨rfl, c5, hraw_26.trans hb_27.symm, sb⟩
        ·refine AWp.skip ?_
         show ∃ s, _ = some (Sum.inl s) ∧ _
         exact ⟨c4, hraw_26.trans hb_27.symm, sb⟩
       ·rintro c4 hx_41
        rw [hx_41] at h2_40
        try dsimp only at h2_40
        try dsimp only
        simp only [Post.then, Post.inBlock, ↓reduceIte, Nat.reduceEqDiff]
        cases h2_40; exact sb
       ·rintro c41 hy_42
        rw [hy_42] at h2_40
        try dsimp only at h2_40
        try dsimp only
        simp only [Post.then, Post.inBlock, ↓reduceIte, Nat.reduceEqDiff]
        cases h2_40; exact sb
      ·rintro c3 hb_18; dsimp only at hb_18 ⊢
       refine AWp.reg ?_
       iterate 2 refine oo ?_
       refine AOps.nil ?_
       exact ln hb_18 sb
     ·refine AWp.exit ?_
      refine lx hb_18 fun hx => ?_; cases hx; try dsimp only at h2_17
      cases h2_17; exact sb
    ·rintro c1 hj_12; dsimp only at hj_12 ⊢
     refine sg fun K k => ?_
     iterate 2 refine oo ?_
     refine AOps.nil (k _ ?_)
     refine cd hj_12 (fun hj_12 => ?_) (fun hj_12 => ?_)
     ·refine sg fun K k => ?_
      iterate 2 refine oo ?_
      refine AOps.nil (k _ ?_)
      refine AWp.ret ?_
      cases hj_12; try dsimp only at hb_6
      refine lx hb_6 fun hx => ?_; cases hx; try dsimp only at h2_5
      cases h2_5; try dsimp only at h
      cases h; exact rt
     ·refine AWp.skip ?_
      exact ln hj_12 sb
   ·rintro _ hb_6; dsimp only at hb_6 ⊢
    refine AWp.reg ?_
    iterate 3 refine oo ?_
    refine AOps.nil ?_
    exact ln hb_6 sb
  ·refine AWp.exit ?_
   refine lx hb_6 fun hx => ?_; cases hx; try dsimp only at h2_5
   exact ln h2_5 sb
 ·rintro _ h; dsimp only at h ⊢
  refine sg fun K k => ?_
  refine oo ?_
  refine AOps.nil (k _ ?_)
  refine AWp.ret ?_
  cases h; exact rt
end Go.Pv.Tryd

namespace Go.Pv.Tryd
open Go.Proofs Go.Pv
theorem m_rate_market_best_ok (m1 : Market) (from1 : Int) (to1 : Int) (r : (Walk × Bool)) (h : m_rate_market_best m1 from1 to1 = some r) : PureFn Tryd.prog G 55 [.d (.agg [(.int .i64 m1.n), (.imm 4 (lenc Offer.pd m1.offers))]), .d (.int .i64 from1), .d (.int .i64 to1)] (.tuple [.d (.agg [(lstD 1 (lenc (PD.int .i64) r.1.list)), (.int .i64 r.1.rate.Num), (.int .i64 r.1.rate.Den), (.int .i64 r.1.to)]), .d (.bool r.2)]) := by
 unfold m_rate_market_best at h
 refine pf Tryd.func55 Tryd.ntmps55 ?_
 refine sg fun K k => ?_
 iterate 4 refine oo ?_
 refine AOps.nil (k _ ?_)
 refine AWp.seq fun _ K_1 => ?_
 refine sg fun K k => ?_
 iterate 3 refine oo ?_
 refine AOps.nil (k _ ?_)
 refine cd h (fun h => ?_) (fun h => ?_)
 ·refine sg fun K k => ?_
  iterate 4 refine oo ?_
  refine AOps.nil (k _ ?_)
  refine AWp.ret ?_
  cases h; exact rt
 ·refine AWp.skip ?_
  refine K_1 _ ?_
  refine sg fun K k => ?_
  iterate 5 refine oo ?_
  refine AOps.nil (k _ ?_)
  refine jn (α := (Walk × Bool)) [6] [1002] (fun i t => (8, .ptr 1003 0 0) :: (9, .ptr 1004 0 0) :: t) (fun i t => (1003, ⟨83, 4, [.d (.agg [(lstD 1 (lenc (PD.int .i64) i.1.list)), (.int .i64 i.1.rate.Num), (.int .i64 i.1.rate.Den), (.int .i64 i.1.to)])]⟩) :: (1004, ⟨4, 1, [.d (.bool i.2)]⟩) :: t) h ?_ ?_
  ·intro _ hj_4
   refine sg fun K k => ?_
   refine oo ?_
   refine AOps.nil (k _ ?_)
   refine AWp.block ?_
   obtain ⟨x_9, hl_6, h2_7⟩ := bind_some hj_4
   refine lp (S := (Int × Walk × Bool)) [1, 3, 5, 6] [1000, 1001, 1002] (fun i t => (8, .ptr 1003 0 0) :: (9, .ptr 1004 0 0) :: (10, .d (.int .i64 i.1)) :: t) (fun i t => (1003, ⟨83, 4, [.d (.agg [(lstD 1 (lenc (PD.int .i64) i.2.1.list)), (.int .i64 i.2.1.rate.Num), (.int .i64 i.2.1.rate.Den), (.int .i64 i.2.1.to)])]⟩) :: (1004, ⟨4, 1, [.d (.bool i.2.2)]⟩) :: t) hl_6 ?_ ?_; exact sb; clear hl_6
   rintro ⟨length1, c3, c4⟩ _ hb_8; unfold m_rate_market_best_l1 at hb_8; try dsimp only at hb_8
   try dsimp only
   refine AWp.seq fun _ K_11 => ?_
   refine sg fun K k => ?_
   iterate 4 refine oo ?_
   refine AOps.nil (k _ ?_)
   refine cd hb_8 (fun hb_8 => ?_) (fun hb_8 => ?_)
   ·refine AWp.skip ?_
    refine K_11 _ ?_
    refine jn (α := (Walk × Bool)) [1, 3, 5, 6, 10] [1000, 1001, 1002] (fun i t => (8, .ptr 1003 0 0) :: (9, .ptr 1004 0 0) :: t) (fun i t => (1003, ⟨83, 4, [.d (.agg [(lstD 1 (lenc (PD.int .i64) i.1.list)), (.int .i64 i.1.rate.Num), (.int .i64 i.1.rate.Den), (.int .i64 i.1.to)])]⟩) :: (1004, ⟨4, 1, [.d (.bool i.2)]⟩) :: t) hb_8 ?_ ?_
    ·intro _ hj_14
     refine AWp.block ?_
     refine sg fun K k => ?_
     iterate 3 refine oo ?_
     obtain ⟨hg_15, hj_14⟩ := guardO_some hj_14
     refine AOps.consU fun K' hK' => ?_; simp (disch := omega) only [go_sem, ↓reduceIte]; refine OpT.call (by rfl) (by rfl) (by kernel_rfl) (walks_fn m1 from1 length1 false) (by exact ⟨rfl, rfl, rfl, rfl, trivial⟩) (by simp only [go_sem, ↓reduceIte]) ?_ (by simp only [go_sem]); simp only [go_sem, ↓reduceIte]; refine hK' _ ?_; clear hK' K'
     refine AOps.nil (k _ ?_)
     refine AWp.block ?_
     refine AWp.sub (τ := ⟨[(1, .d (.int .i64 from1)), (3, .ptr 1000 0 0), (5, .ptr 1001 0 0), (6, .ptr 1002 0 0), (8, .ptr 1003 0 0), (9, .ptr 1004 0 0), (10, .d (.int .i64 length1)), (27, .func (.func 93) [.dptr 2 [(.agg [(.int .i64 m1.n), (.imm 4 (lenc Offer.pd m1.offers))])] 0 0, .dptr 1 [.int .i64 length1] 0 0, .dptr 1 [.int .i64 from1] 0 0, .dptr 1 [.bool false] 0 0])], [(1000, ⟨77, 2, [.d (.agg [(.int .i64 m1.n), (.imm 4 (lenc Offer.pd m1.offers))])]⟩), (1001, ⟨3, 1, [.d (.int .i64 to1)]⟩), (1002, ⟨83, 4, [.d (.agg [.nilslice, (.int .i64 0), (.int .i64 0), (.int .i64 0)])]⟩), (1003, ⟨83, 4, [.d (.agg [(lstD 1 (lenc (PD.int .i64) c3.list)), (.int .i64 c3.rate.Num), (.int .i64 c3.rate.Den), (.int .i64 c3.to)])]⟩), (1004, ⟨4, 1, [.d (.bool c4)]⟩)], [], none⟩) sb ?_
     obtain ⟨o_26, hl_27, h2_28⟩ := bind_some hj_14
     refine AWp.rangeL Walk.pd (walksL m1 from1 length1 false) (fun i_31 : (Walk × Bool) => [(1000, ⟨77, 2, [.d (.agg [(.int .i64 m1.n), (.imm 4 (lenc Offer.pd m1.offers))])]⟩), (1001, ⟨3, 1, [.d (.int .i64 to1)]⟩), (1002, ⟨83, 4, [.d (.agg [.nilslice, (.int .i64 0), (.int .i64 0), (.int .i64 0)])]⟩), (1003, ⟨83, 4, [.d (.agg [(lstD 1 (lenc (PD.int .i64) i_31.1.list)), (.int .i64 i_31.1.rate.Num), (.int .i64 i_31.1.rate.Den), (.int .i64 i_31.1.to)])]⟩), (1004, ⟨4, 1, [.d (.bool i_31.2)]⟩)]) 0 (fun i_31 : (Walk × Bool) => [(1000, ⟨77, 2, [.d (.agg [(.int .i64 m1.n), (.imm 4 (lenc Offer.pd m1.offers))])]⟩), (1001, ⟨3, 1, [.d (.int .i64 to1)]⟩), (1002, ⟨83, 4, [.d (.agg [.nilslice, (.int .i64 0), (.int .i64 0), (.int .i64 0)])]⟩), (1003, ⟨83, 4, [.d (.agg [(lstD 1 (lenc (PD.int .i64) i_31.1.list)), (.int .i64 i_31.1.rate.Num), (.int .i64 i_31.1.rate.Den), (.int .i64 i_31.1.to)])]⟩), (1004, ⟨4, 1, [.d (.bool i_31.2)]⟩)]) (m_rate_market_best_r2 to1) (c3, c4) (by rfl) (by simp only [go_sem]) (by kernel_rfl) (walks_seq m1 from1 length1 false hg_15) rfl rfl (by rfl) (by decide) (by simp only [go_sem, clean, cleanL, dl_clean, ↓reduceIte]) (fun _ => by simp only [go_sem, clean, cleanL, dl_clean, ↓reduceIte]) (fun _ => by simp only [go_sem, clean, cleanL, dl_clean, ↓reduceIte]) hl_27 ?_ ?_ ?_
     ·rintro l_19 ⟨c7, c8⟩ x1 q_18 hraw_16
      have hb_17 := hraw_16
      unfold m_rate_market_best_r2 at hb_17
      try dsimp only at hb_17
      try dsimp only
      simp only [eput, ↓reduceIte, Nat.reduceEqDiff]
      refine AWp.reg ?_
      iterate 2 refine oo ?_
      refine AOps.nil ?_
      refine AWp.block ?_
      refine sg fun K k => ?_
      iterate 5 refine oo ?_
      obtain ⟨b1, hc_20, hb_17⟩ := bind_some hb_17
      refine ct 10 [8, 9, 11] [1000, 1001, 1002, 1003, 1004, 1005] (fun  t => (43, .d (.bool b1)) :: t) ?_ ?_
      ·rcases bt (decide (x1.to = to1)) with hg_24 | hg_24
       ·rw [hg_24]
        rw [hg_24, cond_true] at hc_20
        iterate 3 refine oo ?_
        obtain ⟨b2, hc_21, hc_20⟩ := bind_some hc_20
        refine ct 6 [8, 9, 11, 33] [1000, 1001, 1002, 1003, 1004, 1005] (fun  t => (42, .d (.bool b2)) :: t) ?_ ?_
        ·rcases bt (!c8) with hg_23 | hg_23
         ·rw [hg_23]
          rw [hg_23, cond_true] at hc_21
          iterate 6 refine oo ?_
          refine AOps.nil ?_
          cases hc_21
          exact sb
         ·rw [hg_23]
          rw [hg_23, cond_false] at hc_21
          iterate 4 refine oo ?_
          obtain ⟨r1, hx_22, hc_21⟩ := bind_some hc_21
          refine cl (m_rate_above_ok x1.rate c7.rate _ hx_22) ?_
          refine oo ?_
          refine AOps.nil ?_
          cases hc_21
          exact sb
        refine oo ?_
        refine AOps.nil ?_
        cases hc_20
        exact sb
       ·rw [hg_24]
        rw [hg_24, cond_false] at hc_20
        iterate 10 refine oo ?_
        refine AOps.nil ?_
        cases hc_20
        exact sb
      refine AOps.nil (k _ ?_)
      refine cd hb_17 (fun hb_17 => ?_) (fun hb_17 => ?_)
      ·refine AWp.reg ?_
       iterate 3 refine oo ?_
       refine AOps.nil ?_
       show ∃ s, _ = some (Sum.inl s) ∧ _
       exact ⟨(x1, true), hraw_16.trans hb_17.symm, sb⟩
      ·refine AWp.skip ?_
       show ∃ s, _ = some (Sum.inl s) ∧ _
       exact ⟨(c7, c8), hraw_16.trans hb_17.symm, sb⟩
     ·rintro ⟨c7, c8⟩ hx_29
      rw [hx_29] at h2_28
      try dsimp only at h2_28
      try dsimp only
      simp only [Post.then, Post.inBlock, ↓reduceIte, Nat.reduceEqDiff]
      cases h2_28; exact sb
     ·rintro ⟨c71, c81⟩ hy_30
      rw [hy_30] at h2_28
      try dsimp only at h2_28
      try dsimp only
      simp only [Post.then, Post.inBlock, ↓reduceIte, Nat.reduceEqDiff]
      cases h2_28
    ·rintro ⟨c5, c6⟩ hb_8; dsimp only at hb_8 ⊢
     refine AWp.reg ?_
     iterate 3 refine oo ?_
     refine AOps.nil ?_
     exact ln hb_8 sb
   ·refine AWp.exit ?_
    refine lx hb_8 fun hx => ?_; cases hx; try dsimp only at h2_7
    cases h2_7; exact sb
  ·rintro ⟨c1, c2⟩ h; dsimp only at h ⊢
   refine sd mo fun K k => ?_
   iterate 4 refine dd ?_
   refine DOps.nil (by kernel_rfl) (k _ ?_)
   refine AWp.ret ?_
   cases h; exact rt
end Go.Pv.Tryd

namespace Go.Pv.Tryd
open Go.Proofs Go.Pv
theorem m_rate_Prices_ok (n1 : Int) (offers1 : (List Offer)) (r : ((List Ratio) × Int)) (h : m_rate_Prices n1 offers1 = some r) : PureFn Tryd.prog G 23 [.d (.int .i64 n1), .d (.imm 4 (lenc Offer.pd offers1))] (.tuple [.d (.imm 2 (lenc Ratio.pd r.1)), .d (.int .i64 r.2)]) := by
 unfold m_rate_Prices at h
 refine pf Tryd.func23 Tryd.ntmps23 ?_
 refine sg fun K k => ?_
 iterate 2 refine oo ?_
 refine AOps.nil (k _ ?_)
 refine sg fun K k => ?_
 iterate 2 refine oo ?_
 obtain ⟨r1, hx_1, h⟩ := bind_some h
 refine cl (m_rate_of_ok n1 offers1 _ hx_1) ?_
 iterate 6 refine oo ?_
 refine AOps.nil (k _ ?_)
 refine AWp.seq fun _ K_2 => ?_
 refine sg fun K k => ?_
 iterate 2 refine oo ?_
 refine AOps.nil (k _ ?_)
 refine cd h (fun h => ?_) (fun h => ?_)
 ·refine sg fun K k => ?_
  iterate 3 refine oo ?_
  refine AOps.nil (k _ ?_)
  refine AWp.ret ?_
  cases h; exact rt
 ·refine AWp.skip ?_
  refine K_2 _ ?_
  refine AWp.seq fun _ K_4 => ?_
  refine sg fun K k => ?_
  refine oo ?_
  obtain ⟨r2, hx_5, h⟩ := bind_some h
  refine cl (m_rate_market_round_ok r1.1 _ hx_5) ?_
  refine oo ?_
  refine AOps.nil (k _ ?_)
  refine cd h (fun h => ?_) (fun h => ?_)
  ·refine sg fun K k => ?_
   iterate 2 refine oo ?_
   refine AOps.nil (k _ ?_)
   refine AWp.ret ?_
   cases h; exact rt
  ·refine AWp.skip ?_
   refine K_4 _ ?_
   refine sg fun K k => ?_
   refine oo ?_
   refine AOps.nil (k _ ?_)
   refine AWp.sub (Sub.void 8 26 2 1001 (by rfl) (by rfl) (by decide) (by decide)) ?_
   simp only [eput, hput, reduceCtorEq, ↓reduceIte, Nat.reduceAdd, Nat.reduceMul, Nat.reduceLT, Nat.reduceLeDiff, Nat.reduceEqDiff, Nat.reduceBEq, Int.reduceToNat]
   refine jn (α := (List Ratio)) [] [] (fun i t => (8, .slc 1001 0 i.length) :: t) (fun i t => (1001, ⟨26, 2, dl (lenc Ratio.pd i)⟩) :: t) h ?_ ?_
   ·intro _ hj_8
    refine sg fun K k => ?_
    iterate 2 refine oo ?_
    refine AOps.nil (k _ ?_)
    refine AWp.block ?_
    obtain ⟨x_13, hl_10, h2_11⟩ := bind_some hj_8
    refine lp (S := (Int × (List Ratio))) [0, 6, 26] [1000] (fun i t => (8, .slc 1001 0 i.2.length) :: (27, .d (.int .i64 i.1)) :: t) (fun i t => (1001, ⟨26, 2, dl (lenc Ratio.pd i.2)⟩) :: t) hl_10 ?_ ?_; exact sb; clear hl_10
    rintro ⟨v1, L2⟩ _ hb_12; unfold m_rate_Prices_l1 at hb_12; try dsimp only at hb_12
    try dsimp only
    refine sg fun K k => ?_
    refine oo ?_
    refine AOps.nil (k _ ?_)
    refine AWp.seq fun _ K_15 => ?_
    refine cd hb_12 (fun hb_12 => ?_) (fun hb_12 => ?_)
    ·refine AWp.skip ?_
     refine K_15 _ ?_
     refine jn (α := (List Ratio)) [0, 6, 26, 27] [1000] (fun i t => (8, .slc 1001 0 i.length) :: t) (fun i t => (1001, ⟨26, 2, dl (lenc Ratio.pd i)⟩) :: t) hb_12 ?_ ?_
     ·intro _ hj_18
      refine AWp.block ?_
      refine sg fun K k => ?_
      iterate 2 refine oo ?_
      refine AOps.nil (k _ ?_)
      refine sg fun K k => ?_
      iterate 3 refine oo ?_
      refine AOps.nil (k _ ?_)
      refine jn (α := Ratio) [0, 6, 8, 26, 27] [1000, 1001] (fun i t => (10, .ptr 1002 0 0) :: t) (fun i t => (1002, ⟨26, 2, [.d (.agg [(.int .i64 i.Num), (.int .i64 i.Den)])]⟩) :: t) hj_18 ?_ ?_
      ·intro _ hj_20
       refine sg fun K k => ?_
       iterate 2 refine oo ?_
       refine AOps.nil (k _ ?_)
       refine AWp.block ?_
       obtain ⟨x_25, hl_22, h2_23⟩ := bind_some hj_20
       refine lp (S := (Int × Ratio)) [0, 6, 8, 9, 26, 27, 31] [1000, 1001] (fun i t => (10, .ptr 1002 0 0) :: (32, .d (.int .i64 i.1)) :: t) (fun i t => (1002, ⟨26, 2, [.d (.agg [(.int .i64 i.2.Num), (.int .i64 i.2.Den)])]⟩) :: t) hl_22 ?_ ?_; exact sb; clear hl_22
       rintro ⟨v2, c2⟩ _ hb_24; unfold m_rate_Prices_l2 at hb_24; try dsimp only at hb_24
       try dsimp only
       refine sg fun K k => ?_
       refine oo ?_
       refine AOps.nil (k _ ?_)
       refine AWp.seq fun _ K_27 => ?_
       refine cd hb_24 (fun hb_24 => ?_) (fun hb_24 => ?_)
       ·refine AWp.skip ?_
        refine K_27 _ ?_
        refine jn (α := Ratio) [0, 6, 8, 9, 26, 27, 31, 32] [1000, 1001] (fun i t => (10, .ptr 1002 0 0) :: t) (fun i t => (1002, ⟨26, 2, [.d (.agg [(.int .i64 i.Num), (.int .i64 i.Den)])]⟩) :: t) hb_24 ?_ ?_
        ·intro _ hj_30
         refine AWp.block ?_
         refine sg fun K k => ?_
         iterate 2 refine oo ?_
         refine AOps.nil (k _ ?_)
         refine sg fun K k => ?_
         iterate 3 refine oo ?_
         obtain ⟨r3, hx_31, hj_30⟩ := bind_some hj_30
         refine cl (m_rate_market_best_ok r1.1 v1 v2 _ hx_31) ?_
         iterate 6 refine oo ?_
         refine AOps.nil (k _ ?_)
         refine sg fun K k => ?_
         iterate 2 refine oo ?_
         obtain ⟨b1, hc_32, hj_30⟩ := bind_some hj_30
         refine ct 5 [0, 6, 8, 9, 10, 12, 26, 27, 31, 32] [1000, 1001, 1002, 1003] (fun  t => (48, .d (.bool b1)) :: t) ?_ ?_
         ·rcases bt r3.2 with hg_34 | hg_34
          ·rw [hg_34]
           rw [hg_34, cond_true] at hc_32
           iterate 3 refine oo ?_
           obtain ⟨r4, hx_33, hc_32⟩ := bind_some hc_32
           refine cl (m_rate_above_ok r3.1.rate c2 _ hx_33) ?_
           refine oo ?_
           refine AOps.nil ?_
           cases hc_32
           exact sb
          ·rw [hg_34]
           rw [hg_34, cond_false] at hc_32
           iterate 5 refine oo ?_
           refine AOps.nil ?_
           cases hc_32
           exact sb
         refine AOps.nil (k _ ?_)
         refine cd hj_30 (fun hj_30 => ?_) (fun hj_30 => ?_)
         ·refine AWp.reg ?_
          iterate 3 refine oo ?_
          refine AOps.nil ?_
          cases hj_30; exact sb
         ·refine AWp.skip ?_
          cases hj_30; exact sb
        ·rintro c3 hb_24; dsimp only at hb_24 ⊢
         refine AWp.reg ?_
         iterate 2 refine oo ?_
         refine AOps.nil ?_
         exact ln hb_24 sb
       ·refine AWp.exit ?_
        refine lx hb_24 fun hx => ?_; cases hx; try dsimp only at h2_23
        cases h2_23; exact sb
      ·rintro c1 hj_18; dsimp only at hj_18 ⊢
       refine AWp.reg ?_
       iterate 2 refine oo ?_
       refine ol ?_
       obtain ⟨hg_36, hj_18⟩ := guardO_some hj_18
       iterate 2 refine oo ?_
       refine AOps.nil ?_
       cases hj_18; exact sb
     ·rintro L3 hb_12; dsimp only at hb_12 ⊢
      refine AWp.reg ?_
      iterate 2 refine oo ?_
      refine AOps.nil ?_
      exact ln hb_12 sb
    ·refine AWp.exit ?_
     refine lx hb_12 fun hx => ?_; cases hx; try dsimp only at h2_11
     cases h2_11; exact sb
   ·rintro L1 h; dsimp only at h ⊢
    refine sg fun K k => ?_
    iterate 3 refine oo ?_
    refine AOps.nil (k _ ?_)
    refine AWp.ret ?_
    cases h; exact rt
end Go.Pv.Tryd

namespace Go.Pv.Tryd
open Go.Proofs Go.Pv
theorem m_rate_Best_ok (n1 : Int) (offers1 : (List Offer)) (from1 : Int) (to1 : Int) (r : (Ratio × (List Int) × Int)) (h : m_rate_Best n1 offers1 from1 to1 = some r) : PureFn Tryd.prog G 20 [.d (.int .i64 n1), .d (.imm 4 (lenc Offer.pd offers1)), .d (.int .i64 from1), .d (.int .i64 to1)] (.tuple [.d (.agg [(.int .i64 r.1.Num), (.int .i64 r.1.Den)]), .d (.imm 1 (lenc (PD.int .i64) r.2.1)), .d (.int .i64 r.2.2)]) := by
 unfold m_rate_Best at h
 refine pf Tryd.func20 Tryd.ntmps20 ?_
 refine sg fun K k => ?_
 iterate 3 refine oo ?_
 refine AOps.nil (k _ ?_)
 refine sg fun K k => ?_
 iterate 2 refine oo ?_
 obtain ⟨r1, hx_1, h⟩ := bind_some h
 refine cl (m_rate_of_ok n1 offers1 _ hx_1) ?_
 iterate 6 refine oo ?_
 refine AOps.nil (k _ ?_)
 refine AWp.seq fun _ K_2 => ?_
 refine AWp.block ?_
 refine sg fun K k => ?_
 iterate 3 refine oo ?_
 refine AOps.nil (k _ ?_)
 refine cd h (fun h => ?_) (fun h => ?_)
 ·refine sg fun K k => ?_
  iterate 5 refine oo ?_
  refine AOps.nil (k _ ?_)
  refine AWp.ret ?_
  cases h; exact rt
 ·refine sg fun K k => ?_
  iterate 2 refine oo ?_
  obtain ⟨r2, hx_4, h⟩ := bind_some h
  refine cl (m_rate_market_has_ok r1.1 from1 _ hx_4) ?_
  iterate 2 refine oo ?_
  obtain ⟨b1, hc_5, h⟩ := bind_some h
  refine ct 5 [2, 3, 8, 11] [1000, 1001] (fun  t => (36, .d (.bool b1)) :: t) ?_ ?_
  ·rcases bt (!r2) with hg_7 | hg_7
   ·rw [hg_7]
    rw [hg_7, cond_true] at hc_5
    iterate 5 refine oo ?_
    refine AOps.nil ?_
    cases hc_5
    exact sb
   ·rw [hg_7]
    rw [hg_7, cond_false] at hc_5
    iterate 2 refine oo ?_
    obtain ⟨r3, hx_6, hc_5⟩ := bind_some hc_5
    refine cl (m_rate_market_has_ok r1.1 to1 _ hx_6) ?_
    iterate 2 refine oo ?_
    refine AOps.nil ?_
    cases hc_5
    exact sb
  refine oo ?_
  refine AOps.nil (k _ ?_)
  refine cd h (fun h => ?_) (fun h => ?_)
  ·refine sg fun K k => ?_
   iterate 4 refine oo ?_
   refine AOps.nil (k _ ?_)
   refine AWp.ret ?_
   cases h; exact rt
  ·refine sg fun K k => ?_
   refine oo ?_
   obtain ⟨r4, hx_9, h⟩ := bind_some h
   refine cl (m_rate_market_round_ok r1.1 _ hx_9) ?_
   iterate 2 refine oo ?_
   refine AOps.nil (k _ ?_)
   refine cd h (fun h => ?_) (fun h => ?_)
   ·refine sg fun K k => ?_
    iterate 4 refine oo ?_
    refine AOps.nil (k _ ?_)
    refine AWp.ret ?_
    cases h; exact rt
   ·refine AWp.skip ?_
    refine K_2 _ ?_
    refine sg fun K k => ?_
    iterate 3 refine oo ?_
    obtain ⟨r5, hx_11, h⟩ := bind_some h
    refine cl (m_rate_market_best_ok r1.1 from1 to1 _ hx_11) ?_
    iterate 6 refine oo ?_
    refine AOps.nil (k _ ?_)
    refine AWp.seq fun _ K_12 => ?_
    refine sg fun K k => ?_
    iterate 2 refine oo ?_
    refine AOps.nil (k _ ?_)
    refine cd h (fun h => ?_) (fun h => ?_)
    ·refine sg fun K k => ?_
     iterate 4 refine oo ?_
     refine AOps.nil (k _ ?_)
     refine AWp.ret ?_
     cases h; exact rt
    ·refine AWp.skip ?_
     refine K_12 _ ?_
     refine sd mo fun K k => ?_
     iterate 7 refine dd ?_
     refine DOps.nil (by kernel_rfl) (k _ ?_)
     refine AWp.ret ?_
     cases h; exact rt
end Go.Pv.Tryd

namespace Go.Pv.Tryd
open Go.Proofs Go.Pv
theorem m_rate_Round_ok (n1 : Int) (offers1 : (List Offer)) (r : ((List Int) × Int)) (h : m_rate_Round n1 offers1 = some r) : PureFn Tryd.prog G 26 [.d (.int .i64 n1), .d (.imm 4 (lenc Offer.pd offers1))] (.tuple [.d (.imm 1 (lenc (PD.int .i64) r.1)), .d (.int .i64 r.2)]) := by
 unfold m_rate_Round at h
 refine pf Tryd.func26 Tryd.ntmps26 ?_
 refine sg fun K k => ?_
 iterate 2 refine oo ?_
 refine AOps.nil (k _ ?_)
 refine sg fun K k => ?_
 iterate 2 refine oo ?_
 obtain ⟨r1, hx_1, h⟩ := bind_some h
 refine cl (m_rate_of_ok n1 offers1 _ hx_1) ?_
 iterate 6 refine oo ?_
 refine AOps.nil (k _ ?_)
 refine AWp.seq fun _ K_2 => ?_
 refine sg fun K k => ?_
 iterate 2 refine oo ?_
 refine AOps.nil (k _ ?_)
 refine cd h (fun h => ?_) (fun h => ?_)
 ·refine sg fun K k => ?_
  iterate 3 refine oo ?_
  refine AOps.nil (k _ ?_)
  refine AWp.ret ?_
  cases h; exact rt
 ·refine AWp.skip ?_
  refine K_2 _ ?_
  refine sg fun K k => ?_
  refine oo ?_
  obtain ⟨r2, hx_4, h⟩ := bind_some h
  refine cl (m_rate_market_round_ok r1.1 _ hx_4) ?_
  refine oo ?_
  refine AOps.nil (k _ ?_)
  refine AWp.seq fun _ K_5 => ?_
  refine sg fun K k => ?_
  iterate 2 refine oo ?_
  refine AOps.nil (k _ ?_)
  refine cd h (fun h => ?_) (fun h => ?_)
  ·refine sg fun K k => ?_
   iterate 2 refine oo ?_
   refine AOps.nil (k _ ?_)
   refine AWp.ret ?_
   cases h; exact rt
  ·refine AWp.skip ?_
   refine K_5 _ ?_
   refine sg fun K k => ?_
   iterate 3 refine oo ?_
   refine AOps.nil (k _ ?_)
   refine AWp.ret ?_
   cases h; exact rt
end Go.Pv.Tryd

namespace Go.Pv.Tryd
open Go.Proofs Go.Pv
theorem m_cocketlaw01_same_ok (a1 : (List Int)) (b1 : (List Int)) (r : Bool) (h : m_cocketlaw01_same a1 b1 = some r) : PureFn Tryd.prog G 21 [.d (.imm 1 (lenc (PD.int .i64) a1)), .d (.imm 1 (lenc (PD.int .i64) b1))] (.d (.bool r)) := by
 unfold m_cocketlaw01_same at h
 refine pf Tryd.func21 Tryd.ntmps21 ?_
 refine sg fun K k => ?_
 refine oo ?_
 refine AOps.nil (k _ ?_)
 refine AWp.seq fun _ K_1 => ?_
 refine sg fun K k => ?_
 iterate 5 refine oo ?_
 refine AOps.nil (k _ ?_)
 refine cd h (fun h => ?_) (fun h => ?_)
 ·refine sg fun K k => ?_
  refine oo ?_
  refine AOps.nil (k _ ?_)
  refine AWp.ret ?_
  cases h; exact rt
 ·refine AWp.skip ?_
  refine K_1 _ ?_
  refine jm (ι := Unit) [] [] (fun i t => t) (fun i t => t) .inl h ?_ ?_
  ·intro _ hj_4 h
   refine sg fun K k => ?_
   refine oo ?_
   refine AOps.nil (k _ ?_)
   refine AWp.block ?_
   obtain ⟨x_9, hl_6, h2_7⟩ := bind_some hj_4
   refine lp (S := Int) [0, 1] [] (fun i t => (5, .d (.int .i64 i)) :: t) (fun i t => t) hl_6 ?_ ?_; exact sb; clear hl_6
   rintro i1 _ hb_8; unfold m_cocketlaw01_same_l1 at hb_8; try dsimp only at hb_8
   try dsimp only
   refine AWp.seq fun _ K_11 => ?_
   refine sg fun K k => ?_
   iterate 4 refine oo ?_
   refine AOps.nil (k _ ?_)
   refine cd hb_8 (fun hb_8 => ?_) (fun hb_8 => ?_)
   ·refine AWp.skip ?_
    refine K_11 _ ?_
    refine AWp.seq fun _ K_13 => ?_
    refine AWp.block ?_
    refine sd mo fun K k => ?_
    obtain ⟨e1, ⟨f_14, f_15, f_16, f_17⟩, hb_8⟩ := idx_bind hb_8
    iterate 3 refine dd ?_
    refine dd ?_ (by intro K k; simp (disch := omega) only [go_sem, f_16, ↓reduceIte]; exact k)
    obtain ⟨e2, ⟨f_18, f_19, f_20, f_21⟩, hb_8⟩ := idx_bind hb_8
    iterate 3 refine dd ?_
    refine dd ?_ (by intro K k; simp (disch := omega) only [go_sem, f_20, ↓reduceIte]; exact k)
    refine dd ?_
    refine DOps.nil (by kernel_rfl) (k _ ?_)
    refine cd hb_8 (fun hb_8 => ?_) (fun hb_8 => ?_)
    ·refine sg fun K k => ?_
     refine oo ?_
     refine AOps.nil (k _ ?_)
     refine AWp.ret ?_
     refine lx hb_8 fun hx => ?_; cases hx; try dsimp only at h2_7
     cases h2_7; try dsimp only at h
     cases h; exact rt
    ·refine AWp.skip ?_
     refine K_13 _ ?_
     refine AWp.reg ?_
     iterate 3 refine oo ?_
     refine AOps.nil ?_
     exact ln hb_8 sb
   ·refine AWp.exit ?_
    refine lx hb_8 fun hx => ?_; cases hx; try dsimp only at h2_7
    exact ln h2_7 sb
  ·rintro _ h; dsimp only at h ⊢
   refine sg fun K k => ?_
   refine oo ?_
   refine AOps.nil (k _ ?_)
   refine AWp.ret ?_
   cases h; exact rt
end Go.Pv.Tryd

namespace Go.Pv.Tryd
open Go.Proofs Go.Pv
theorem m_cocketlaw01_alive_ok (r : Bool) (h : m_cocketlaw01_alive = some r) : PureFn Tryd.prog G 18 [] (.d (.bool r)) := by
 unfold m_cocketlaw01_alive at h
 refine pf Tryd.func18 Tryd.ntmps18 ?_
 refine sg fun K k => ?_
 refine oo ?_
 refine AOps.nil (k _ ?_)
 refine sg fun K k => ?_
 obtain ⟨r1, hx_1, h⟩ := bind_some h
 refine clRow 1000 (m_cocketlaw01_ring_ok _ hx_1) ?_
 refine AOps.sub (τ := ⟨[(10, .d (.imm 4 (lenc Offer.pd r1)))], [], [], none⟩) sc ?_
 obtain ⟨r2, hx_2, h⟩ := bind_some h
 refine cl (m_rate_Prices_ok 3 r1 _ hx_2) ?_
 iterate 5 refine oo ?_
 refine AOps.nil (k _ ?_)
 refine sg fun K k => ?_
 obtain ⟨r3, hx_3, h⟩ := bind_some h
 refine clRow 1000 (m_cocketlaw01_ring_ok _ hx_3) ?_
 refine AOps.sub (τ := ⟨[(1, .d (.imm 2 (lenc Ratio.pd r2.1))), (2, .d (.int .i64 r2.2)), (15, .d (.imm 4 (lenc Offer.pd r3)))], [], [], none⟩) sc ?_
 obtain ⟨r4, hx_4, h⟩ := bind_some h
 refine cl (m_rate_Best_ok 3 r3 0 2 _ hx_4) ?_
 iterate 8 refine oo ?_
 refine AOps.nil (k _ ?_)
 refine sg fun K k => ?_
 obtain ⟨r5, hx_5, h⟩ := bind_some h
 refine clRow 1001 (m_cocketlaw01_ring_ok _ hx_5) ?_
 refine oo ?_
 refine AOps.nil (k _ ?_)
 refine sg fun K k => ?_
 obtain ⟨e1, ⟨f_6, f_7, f_8, f_9⟩, h⟩ := idx_bind h
 try simp only [Int.reduceToNat] at f_8 f_9
 iterate 3 refine oo ?_
 refine oo ?_ (by intro K k; simp (disch := omega) only [go_sem, f_8, ↓reduceIte]; exact k)
 refine AOps.nil (k _ ?_)
 refine sg fun K k => ?_
 refine oo ?_
 refine AOps.sub (τ := ⟨[(1, .d (.imm 2 (lenc Ratio.pd r2.1))), (2, .d (.int .i64 r2.2)), (3, .ptr 1000 0 0), (4, .d (.imm 1 (lenc (PD.int .i64) r4.2.1))), (5, .d (.int .i64 r4.2.2)), (25, .d (.imm 4 (lenc Offer.pd (r5.set 2 (⟨e1.From, e1.To, e1.Num, 2⟩ : Offer)))))], [(1000, ⟨26, 2, [.d (.agg [(.int .i64 r4.1.Num), (.int .i64 r4.1.Den)])]⟩)], [], none⟩) sc ?_
 obtain ⟨r6, hx_10, h⟩ := bind_some h
 refine cl (m_rate_Round_ok 3 (r5.set 2 (⟨e1.From, e1.To, e1.Num, 2⟩ : Offer)) _ hx_10) ?_
 iterate 5 refine oo ?_
 refine AOps.nil (k _ ?_)
 refine sg fun K k => ?_
 iterate 3 refine oo ?_
 refine ct 4 [1, 3, 4, 5, 7, 8] [1000] (fun  t => (35, .d (.bool ((decide (r2.2 = 0)) && (decide ((r2.1.length : Int) = 3))))) :: t) ?_ ?_
 ·rcases bt (decide (r2.2 = 0)) with hg_12 | hg_12
  ·rw [hg_12]
   iterate 4 refine oo ?_
   refine AOps.nil ?_
   exact sb
  ·rw [hg_12]
   iterate 4 refine oo ?_
   refine AOps.nil ?_
   exact sb
 refine oo ?_
 obtain ⟨b1, hc_13, h⟩ := bind_some h
 refine ct 6 [3, 4, 5, 7, 8] [1000] (fun  t => (42, .d (.bool b1)) :: t) ?_ ?_
 ·rcases bt ((decide (r2.2 = 0)) && (decide ((r2.1.length : Int) = 3))) with hg_18 | hg_18
  ·rw [hg_18]
   rw [hg_18, cond_true] at hc_13
   obtain ⟨e2, ⟨f_14, f_15, f_16, f_17⟩, hc_13⟩ := idx_bind hc_13
   try simp only [Int.reduceToNat] at f_16 f_17
   iterate 2 refine oo ?_
   refine oo ?_ (by intro K k; simp (disch := omega) only [go_sem, f_16, ↓reduceIte]; exact k)
   refine oo ?_
   refine ox ?_ (by intro K k; simp (disch := omega) only [go_sem, fsl26, ↓reduceIte]; exact k)
   refine oo ?_
   refine AOps.nil ?_
   cases hc_13
   exact sb
  ·rw [hg_18]
   rw [hg_18, cond_false] at hc_13
   iterate 6 refine oo ?_
   refine AOps.nil ?_
   cases hc_13
   exact sb
 refine oo ?_
 refine ct 3 [3, 4, 7, 8] [1000] (fun  t => (46, .d (.bool (b1 && (decide (r4.2.2 = 0))))) :: t) ?_ ?_
 ·rcases bt b1 with hg_20 | hg_20
  ·rw [hg_20]
   iterate 3 refine oo ?_
   refine AOps.nil ?_
   exact sb
  ·rw [hg_20]
   iterate 3 refine oo ?_
   refine AOps.nil ?_
   exact sb
 refine oo ?_
 refine ct 4 [4, 7, 8] [] (fun  t => (51, .d (.bool ((b1 && (decide (r4.2.2 = 0))) && ((r4.1.Num == 3) && (r4.1.Den == 1))))) :: t) ?_ ?_
 ·rcases bt (b1 && (decide (r4.2.2 = 0))) with hg_22 | hg_22
  ·rw [hg_22]
   iterate 2 refine oo ?_
   refine ox ?_ (by intro K k; simp (disch := omega) only [go_sem, fsl26, ↓reduceIte]; exact k)
   refine oo ?_
   refine AOps.nil ?_
   exact sb
  ·rw [hg_22]
   iterate 4 refine oo ?_
   refine AOps.nil ?_
   exact sb
 refine oo ?_
 refine ct 4 [7, 8] [] (fun  t => (56, .d (.bool (((b1 && (decide (r4.2.2 = 0))) && ((r4.1.Num == 3) && (r4.1.Den == 1))) && (decide ((r4.2.1.length : Int) = 2))))) :: t) ?_ ?_
 ·rcases bt ((b1 && (decide (r4.2.2 = 0))) && ((r4.1.Num == 3) && (r4.1.Den == 1))) with hg_24 | hg_24
  ·rw [hg_24]
   iterate 4 refine oo ?_
   refine AOps.nil ?_
   exact sb
  ·rw [hg_24]
   iterate 4 refine oo ?_
   refine AOps.nil ?_
   exact sb
 refine oo ?_
 refine ct 3 [7] [] (fun  t => (60, .d (.bool ((((b1 && (decide (r4.2.2 = 0))) && ((r4.1.Num == 3) && (r4.1.Den == 1))) && (decide ((r4.2.1.length : Int) = 2))) && (decide (r6.2 = 0))))) :: t) ?_ ?_
 ·rcases bt (((b1 && (decide (r4.2.2 = 0))) && ((r4.1.Num == 3) && (r4.1.Den == 1))) && (decide ((r4.2.1.length : Int) = 2))) with hg_26 | hg_26
  ·rw [hg_26]
   iterate 3 refine oo ?_
   refine AOps.nil ?_
   exact sb
  ·rw [hg_26]
   iterate 3 refine oo ?_
   refine AOps.nil ?_
   exact sb
 refine oo ?_
 obtain ⟨b2, hc_27, h⟩ := bind_some h
 refine ct 4 [] [] (fun  t => (65, .d (.bool b2)) :: t) ?_ ?_
 ·rcases bt ((((b1 && (decide (r4.2.2 = 0))) && ((r4.1.Num == 3) && (r4.1.Den == 1))) && (decide ((r4.2.1.length : Int) = 2))) && (decide (r6.2 = 0))) with hg_29 | hg_29
  ·rw [hg_29]
   rw [hg_29, cond_true] at hc_27
   refine oo ?_
   refine ol ?_
   obtain ⟨r7, hx_28, hc_27⟩ := bind_some hc_27
   refine cl (m_cocketlaw01_same_ok r6.1 [0, 1, 2] _ hx_28) ?_
   refine oo ?_
   refine AOps.nil ?_
   cases hc_27
   exact sb
  ·rw [hg_29]
   rw [hg_29, cond_false] at hc_27
   iterate 4 refine oo ?_
   refine AOps.nil ?_
   cases hc_27
   exact sb
 refine oo ?_
 refine AOps.nil (k _ ?_)
 refine AWp.ret ?_
 cases h; exact rt
end Go.Pv.Tryd

namespace Go.Pv.Tryd
open Go.Proofs Go.Pv
theorem m_cocketref01_Walk_ok (l1 : (List Offer)) (w1 : (List Int)) (r : Bool) (h : m_cocketref01_Walk l1 w1 = some r) : PureFn Tryd.prog G 42 [.d (.imm 4 (lenc Offer.pd l1)), .d (.imm 1 (lenc (PD.int .i64) w1))] (.d (.bool r)) := by
 unfold m_cocketref01_Walk at h
 refine pf Tryd.func42 Tryd.ntmps42 ?_
 refine sg fun K k => ?_
 refine oo ?_
 refine AOps.nil (k _ ?_)
 refine jm (ι := Unit) [] [] (fun i t => t) (fun i t => t) .inl h ?_ ?_
 ·intro _ hj_2 h
  refine sg fun K k => ?_
  refine oo ?_
  refine AOps.nil (k _ ?_)
  refine AWp.block ?_
  obtain ⟨x_7, hl_4, h2_5⟩ := bind_some hj_2
  refine lp (S := Int) [0, 1] [] (fun i t => (5, .d (.int .i64 i)) :: t) (fun i t => t) hl_4 ?_ ?_; exact sb; clear hl_4
  rintro i1 _ hb_6; unfold m_cocketref01_Walk_l1 at hb_6; try dsimp only at hb_6
  try dsimp only
  refine AWp.seq fun _ K_9 => ?_
  refine sg fun K k => ?_
  iterate 4 refine oo ?_
  refine AOps.nil (k _ ?_)
  refine cd hb_6 (fun hb_6 => ?_) (fun hb_6 => ?_)
  ·refine AWp.skip ?_
   refine K_9 _ ?_
   refine AWp.seq fun _ K_11 => ?_
   refine AWp.block ?_
   refine sd mo fun K k => ?_
   obtain ⟨e1, ⟨f_12, f_13, f_14, f_15⟩, hb_6⟩ := idx_bind hb_6
   iterate 3 refine dd ?_
   refine dd ?_ (by intro K k; simp (disch := omega) only [go_sem, f_14, ↓reduceIte]; exact k)
   iterate 2 refine dd ?_
   rcases bt (decide (e1 < 0)) with hg_16 | hg_16
   ·rw [hg_16]
    rw [hg_16, cond_true] at hb_6
    iterate 32 refine dd ?_
    refine DOps.nil (by kernel_rfl) (k _ ?_)
    refine cdt ?_
    refine sg fun K k => ?_
    refine oo ?_
    refine AOps.nil (k _ ?_)
    refine AWp.ret ?_
    refine lx hb_6 fun hx => ?_; cases hx; try dsimp only at h2_5
    cases h2_5; try dsimp only at h
    cases h; exact rt
   ·rw [hg_16]
    rw [hg_16, cond_false] at hb_6
    iterate 3 refine dd ?_
    refine dd ?_ (by intro K k; simp (disch := omega) only [go_sem, f_14, ↓reduceIte]; exact k)
    iterate 5 refine dd ?_
    rcases bt (decide ((l1.length : Int) ≤ e1)) with hg_18 | hg_18
    ·rw [hg_18]
     rw [hg_18, cond_true] at hb_6
     iterate 23 refine dd ?_
     refine DOps.nil (by kernel_rfl) (k _ ?_)
     refine cdt ?_
     refine sg fun K k => ?_
     refine oo ?_
     refine AOps.nil (k _ ?_)
     refine AWp.ret ?_
     refine lx hb_6 fun hx => ?_; cases hx; try dsimp only at h2_5
     cases h2_5; try dsimp only at h
     cases h; exact rt
    ·rw [hg_18]
     rw [hg_18, cond_false] at hb_6
     iterate 3 refine dd ?_
     rcases bt (decide (0 < i1)) with hg_20 | hg_20
     ·rw [hg_20]
      rw [hg_20, cond_true] at hb_6
      obtain ⟨e2, ⟨f_21, f_22, f_23, f_24⟩, hb_6⟩ := idx_bind hb_6
      iterate 5 refine dd ?_
      refine dd ?_ (by intro K k; simp (disch := omega) only [go_sem, f_23, ↓reduceIte]; exact k)
      obtain ⟨e3, ⟨f_25, f_26, f_27, f_28⟩, hb_6⟩ := idx_bind hb_6
      iterate 2 refine dd ?_
      refine dd ?_ (by intro K k; simp (disch := omega) only [go_sem, f_27, ↓reduceIte]; exact k)
      iterate 4 refine dd ?_
      refine dd ?_ (by intro K k; simp (disch := omega) only [go_sem, f_14, ↓reduceIte]; exact k)
      obtain ⟨e4, ⟨f_29, f_30, f_31, f_32⟩, hb_6⟩ := idx_bind hb_6
      iterate 2 refine dd ?_
      refine dd ?_ (by intro K k; simp (disch := omega) only [go_sem, f_31, ↓reduceIte]; exact k)
      iterate 3 refine dd ?_
      refine DOps.nil (by kernel_rfl) (k _ ?_)
      refine cd hb_6 (fun hb_6 => ?_) (fun hb_6 => ?_)
      ·refine sg fun K k => ?_
       refine oo ?_
       refine AOps.nil (k _ ?_)
       refine AWp.ret ?_
       refine lx hb_6 fun hx => ?_; cases hx; try dsimp only at h2_5
       cases h2_5; try dsimp only at h
       cases h; exact rt
      ·refine AWp.skip ?_
       refine K_11 _ ?_
       refine AWp.reg ?_
       iterate 3 refine oo ?_
       refine AOps.nil ?_
       exact ln hb_6 sb
     ·rw [hg_20]
      rw [hg_20, cond_false] at hb_6
      iterate 20 refine dd ?_
      refine DOps.nil (by kernel_rfl) (k _ ?_)
      refine cdf ?_
      refine AWp.skip ?_
      refine K_11 _ ?_
      refine AWp.reg ?_
      iterate 3 refine oo ?_
      refine AOps.nil ?_
      exact ln hb_6 sb
  ·refine AWp.exit ?_
   refine lx hb_6 fun hx => ?_; cases hx; try dsimp only at h2_5
   exact ln h2_5 sb
 ·rintro _ h; dsimp only at h ⊢
  refine sg fun K k => ?_
  refine oo ?_
  refine AOps.nil (k _ ?_)
  refine AWp.ret ?_
  cases h; exact rt
end Go.Pv.Tryd

namespace Go.Pv.Tryd
open Go.Proofs Go.Pv
theorem m_cocketref01_trim_ok (d1 : (List Int)) (r : (List Int)) (h : m_cocketref01_trim d1 = some r) : PureFn Tryd.prog G 98 [.d (.imm 1 (lenc (PD.int .i64) d1))] (.d (.imm 1 (lenc (PD.int .i64) r))) := by
 unfold m_cocketref01_trim at h
 refine pf Tryd.func98 Tryd.ntmps98 ?_
 refine sg fun K k => ?_
 refine oo ?_
 refine AOps.nil (k _ ?_)
 refine sg fun K k => ?_
 iterate 3 refine oo ?_
 refine AOps.nil (k _ ?_)
 refine jn (α := Int) [0] [] (fun i t => (3, .d (.int .i64 i)) :: t) (fun i t => t) h ?_ ?_
 ·intro _ hj_2
  refine AWp.block ?_
  obtain ⟨x_7, hl_4, h2_5⟩ := bind_some hj_2
  refine lp (S := Int) [0] [] (fun i t => (3, .d (.int .i64 i)) :: t) (fun i t => t) hl_4 ?_ ?_; exact sb; clear hl_4
  rintro n2 _ hb_6; unfold m_cocketref01_trim_l1 at hb_6; try dsimp only at hb_6
  try dsimp only
  refine AWp.seq fun _ K_9 => ?_
  refine sg fun K k => ?_
  iterate 3 refine oo ?_
  obtain ⟨b1, hc_10, hb_6⟩ := bind_some hb_6
  refine ct 7 [0, 3] [] (fun  t => (17, .d (.bool b1)) :: t) ?_ ?_
  ·rcases bt (decide (0 < n2)) with hg_15 | hg_15
   ·rw [hg_15]
    rw [hg_15, cond_true] at hc_10
    obtain ⟨e1, ⟨f_11, f_12, f_13, f_14⟩, hc_10⟩ := idx_bind hc_10
    iterate 4 refine oo ?_
    refine oo ?_ (by intro K k; simp (disch := omega) only [go_sem, f_13, ↓reduceIte]; exact k)
    iterate 2 refine oo ?_
    refine AOps.nil ?_
    cases hc_10
    exact sb
   ·rw [hg_15]
    rw [hg_15, cond_false] at hc_10
    iterate 7 refine oo ?_
    refine AOps.nil ?_
    cases hc_10
    exact sb
  refine AOps.nil (k _ ?_)
  refine cd hb_6 (fun hb_6 => ?_) (fun hb_6 => ?_)
  ·refine AWp.skip ?_
   refine K_9 _ ?_
   refine AWp.block ?_
   refine AWp.reg ?_
   iterate 3 refine oo ?_
   refine AOps.nil ?_
   exact ln hb_6 sb
  ·refine AWp.exit ?_
   refine lx hb_6 fun hx => ?_; cases hx; try dsimp only at h2_5
   cases h2_5; exact sb
 ·rintro n1 h; dsimp only at h ⊢
  refine sg fun K k => ?_
  refine oo ?_
  refine AOps.nil (k _ ?_)
  refine AWp.sub (Sub.void 4 3 1 1000 (by rfl) (by rfl) (by decide) (by decide)) ?_
  simp only [eput, hput, reduceCtorEq, ↓reduceIte, Nat.reduceAdd, Nat.reduceMul, Nat.reduceLT, Nat.reduceLeDiff, Nat.reduceEqDiff, Nat.reduceBEq, Int.reduceToNat]
  refine jn (α := (List Int)) [] [] (fun i t => (4, .slc 1000 0 i.length) :: t) (fun i t => (1000, ⟨3, 1, dl (lenc (PD.int .i64) i)⟩) :: t) h ?_ ?_
  ·intro _ hj_18
   refine sg fun K k => ?_
   refine oo ?_
   refine AOps.nil (k _ ?_)
   refine AWp.block ?_
   obtain ⟨x_23, hl_20, h2_21⟩ := bind_some hj_18
   refine lp (S := (Int × (List Int))) [0, 3] [] (fun i t => (4, .slc 1000 0 i.2.length) :: (5, .d (.int .i64 i.1)) :: t) (fun i t => (1000, ⟨3, 1, dl (lenc (PD.int .i64) i.2)⟩) :: t) hl_20 ?_ ?_; exact sb; clear hl_20
   rintro ⟨i1, L2⟩ _ hb_22; unfold m_cocketref01_trim_l2 at hb_22; try dsimp only at hb_22
   try dsimp only
   refine AWp.seq fun _ K_25 => ?_
   refine sg fun K k => ?_
   iterate 3 refine oo ?_
   refine AOps.nil (k _ ?_)
   refine cd hb_22 (fun hb_22 => ?_) (fun hb_22 => ?_)
   ·refine AWp.skip ?_
    refine K_25 _ ?_
    refine AWp.seq fun _ K_27 => ?_
    refine AWp.block ?_
    refine AWp.reg ?_
    obtain ⟨e2, ⟨f_28, f_29, f_30, f_31⟩, hb_22⟩ := idx_bind hb_22
    iterate 4 refine oo ?_
    refine oo ?_ (by intro K k; simp (disch := omega) only [go_sem, f_30, ↓reduceIte]; exact k)
    refine ol ?_
    obtain ⟨hg_32, hb_22⟩ := guardO_some hb_22
    iterate 2 refine oo ?_
    refine AOps.nil ?_
    refine K_27 _ ?_
    refine AWp.reg ?_
    iterate 3 refine oo ?_
    refine AOps.nil ?_
    exact ln hb_22 sb
   ·refine AWp.exit ?_
    refine lx hb_22 fun hx => ?_; cases hx; try dsimp only at h2_21
    cases h2_21; exact sb
  ·rintro L1 h; dsimp only at h ⊢
   refine sg fun K k => ?_
   iterate 2 refine oo ?_
   refine AOps.nil (k _ ?_)
   refine AWp.ret ?_
   cases h; exact rt
end Go.Pv.Tryd

namespace Go.Pv.Tryd
open Go.Proofs Go.Pv
theorem m_cocketref01_whole_ok (neg1 : Bool) (d1 : (List Int)) (r : Big) (h : m_cocketref01_whole neg1 d1 = some r) : PureFn Tryd.prog G 84 [.d (.bool neg1), .d (.imm 1 (lenc (PD.int .i64) d1))] (.d (.agg [(.bool r.Neg), (.imm 1 (lenc (PD.int .i64) r.D))])) := by
 unfold m_cocketref01_whole at h
 refine pf Tryd.func84 Tryd.ntmps84 ?_
 refine sg fun K k => ?_
 refine oo ?_
 refine AOps.nil (k _ ?_)
 refine sg fun K k => ?_
 refine oo ?_
 obtain ⟨r1, hx_1, h⟩ := bind_some h
 refine cl (m_cocketref01_trim_ok d1 _ hx_1) ?_
 refine oo ?_
 refine AOps.nil (k _ ?_)
 refine sg fun K k => ?_
 iterate 2 refine oo ?_
 refine ct 4 [4, 5] [1000] (fun  t => (13, .d (.bool (neg1 && (decide (0 < (r1.length : Int)))))) :: t) ?_ ?_
 ·rcases bt neg1 with hg_3 | hg_3
  ·rw [hg_3]
   iterate 4 refine oo ?_
   refine AOps.nil ?_
   exact sb
  ·rw [hg_3]
   iterate 4 refine oo ?_
   refine AOps.nil ?_
   exact sb
 iterate 3 refine oo ?_
 refine AOps.nil (k _ ?_)
 refine AWp.ret ?_
 cases h; exact rt
end Go.Pv.Tryd

namespace Go.Pv.Tryd
open Go.Proofs Go.Pv
theorem m_cocketref01_Of_ok (n1 : Int) (r : Big) (h : m_cocketref01_Of n1 = some r) : PureFn Tryd.prog G 73 [.d (.int .i64 n1)] (.d (.agg [(.bool r.Neg), (.imm 1 (lenc (PD.int .i64) r.D))])) := by
 unfold m_cocketref01_Of at h
 refine pf Tryd.func73 Tryd.ntmps73 ?_
 refine sg fun K k => ?_
 refine oo ?_
 refine AOps.nil (k _ ?_)
 refine sg fun K k => ?_
 refine oo ?_
 refine AOps.nil (k _ ?_)
 refine AWp.sub (Sub.void 3 3 1 1001 (by rfl) (by rfl) (by decide) (by decide)) ?_
 simp only [eput, hput, reduceCtorEq, ↓reduceIte, Nat.reduceAdd, Nat.reduceMul, Nat.reduceLT, Nat.reduceLeDiff, Nat.reduceEqDiff, Nat.reduceBEq, Int.reduceToNat]
 refine sg fun K k => ?_
 iterate 3 refine oo ?_
 refine AOps.nil (k _ ?_)
 refine jn (α := (List Int)) [2, 4] [1000] (fun i t => (3, .slc 1001 0 i.length) :: t) (fun i t => (1001, ⟨3, 1, dl (lenc (PD.int .i64) i)⟩) :: t) h ?_ ?_
 ·intro _ hj_2
  refine AWp.block ?_
  obtain ⟨x_7, hl_4, h2_5⟩ := bind_some hj_2
  refine lp (S := (Int × (List Int))) [2, 4] [1000] (fun i t => (0, .d (.int .i64 i.1)) :: (3, .slc 1001 0 i.2.length) :: t) (fun i t => (1001, ⟨3, 1, dl (lenc (PD.int .i64) i.2)⟩) :: t) hl_4 ?_ ?_; exact sb; clear hl_4
  rintro ⟨n2, L2⟩ _ hb_6; unfold m_cocketref01_Of_l1 at hb_6; try dsimp only at hb_6
  try dsimp only
  refine AWp.seq fun _ K_9 => ?_
  refine sg fun K k => ?_
  iterate 2 refine oo ?_
  refine AOps.nil (k _ ?_)
  refine cd hb_6 (fun hb_6 => ?_) (fun hb_6 => ?_)
  ·refine AWp.skip ?_
   refine K_9 _ ?_
   refine AWp.block ?_
   refine sg fun K k => ?_
   iterate 3 refine oo ?_
   refine AOps.nil (k _ ?_)
   refine jn (α := Int) [0, 2, 3, 4] [1000, 1001] (fun i t => (5, .d (.int .i64 i)) :: t) (fun i t => t) hb_6 ?_ ?_
   ·intro _ hj_12
    refine sg fun K k => ?_
    iterate 2 refine oo ?_
    refine AOps.nil (k _ ?_)
    refine cd hj_12 (fun hj_12 => ?_) (fun hj_12 => ?_)
    ·refine AWp.reg ?_
     iterate 3 refine oo ?_
     refine AOps.nil ?_
     cases hj_12; exact sb
    ·refine AWp.skip ?_
     cases hj_12; exact sb
   ·rintro r1 hb_6; dsimp only at hb_6 ⊢
    refine sg fun K k => ?_
    iterate 2 refine oo ?_
    refine ol ?_
    obtain ⟨hg_14, hb_6⟩ := guardO_some hb_6
    iterate 2 refine oo ?_
    refine AOps.nil (k _ ?_)
    refine AWp.reg ?_
    iterate 3 refine oo ?_
    refine AOps.nil ?_
    exact ln hb_6 sb
  ·refine AWp.exit ?_
   refine lx hb_6 fun hx => ?_; cases hx; try dsimp only at h2_5
   cases h2_5; exact sb
 ·rintro L1 h; dsimp only at h ⊢
  refine sg fun K k => ?_
  iterate 2 refine oo ?_
  refine AOps.sub (τ := ⟨[(2, .ptr 1000 0 0), (22, .d (.bool (decide (n1 < 0)))), (23, .d (.imm 1 (lenc (PD.int .i64) L1)))], [(1000, ⟨57, 2, [.d (.agg [(.bool false), .nilslice])]⟩)], [], none⟩) sc ?_
  obtain ⟨r2, hx_15, h⟩ := bind_some h
  refine cl (m_cocketref01_whole_ok (decide (n1 < 0)) L1 _ hx_15) ?_
  refine oo ?_
  refine AOps.nil (k _ ?_)
  refine AWp.ret ?_
  cases h; exact rt
end Go.Pv.Tryd

namespace Go.Pv.Tryd
open Go.Proofs Go.Pv
theorem m_cocketref01_Neg_ok (a1 : Big) (r : Big) (h : m_cocketref01_Neg a1 = some r) : PureFn Tryd.prog G 86 [.d (.agg [(.bool a1.Neg), (.imm 1 (lenc (PD.int .i64) a1.D))])] (.d (.agg [(.bool r.Neg), (.imm 1 (lenc (PD.int .i64) r.D))])) := by
 unfold m_cocketref01_Neg at h
 refine pf Tryd.func86 Tryd.ntmps86 ?_
 refine sg fun K k => ?_
 iterate 2 refine oo ?_
 refine AOps.nil (k _ ?_)
 refine sg fun K k => ?_
 iterate 5 refine oo ?_
 obtain ⟨r1, hx_1, h⟩ := bind_some h
 refine cl (m_cocketref01_whole_ok (!a1.Neg) a1.D _ hx_1) ?_
 refine oo ?_
 refine AOps.nil (k _ ?_)
 refine AWp.ret ?_
 cases h; exact rt
end Go.Pv.Tryd

namespace Go.Pv.Tryd
open Go.Proofs Go.Pv
theorem m_cocketref01_mulD_ok (a1 : (List Int)) (b1 : (List Int)) (r : (List Int)) (h : m_cocketref01_mulD a1 b1 = some r) : PureFn Tryd.prog G 85 [.d (.imm 1 (lenc (PD.int .i64) a1)), .d (.imm 1 (lenc (PD.int .i64) b1))] (.d (.imm 1 (lenc (PD.int .i64) r))) := by
 unfold m_cocketref01_mulD at h
 refine pf Tryd.func85 Tryd.ntmps85 ?_
 refine sg fun K k => ?_
 refine oo ?_
 refine AOps.nil (k _ ?_)
 refine sg fun K k => ?_
 obtain ⟨hg_1, h⟩ := guardO_some h
 iterate 7 refine oo ?_
 refine AOps.nil (k _ ?_)
 refine jn (α := (List Int)) [] [] (fun i t => (5, .slc 1000 0 i.length) :: t) (fun i t => (1000, ⟨3, 1, dl (lenc (PD.int .i64) i)⟩) :: t) h ?_ ?_
 ·intro _ hj_3
  refine sg fun K k => ?_
  refine oo ?_
  refine AOps.nil (k _ ?_)
  refine AWp.block ?_
  obtain ⟨x_8, hl_5, h2_6⟩ := bind_some hj_3
  refine lp (S := (Int × (List Int))) [0, 1] [] (fun i t => (5, .slc 1000 0 i.2.length) :: (6, .d (.int .i64 i.1)) :: t) (fun i t => (1000, ⟨3, 1, dl (lenc (PD.int .i64) i.2)⟩) :: t) hl_5 ?_ ?_; exact sb; clear hl_5
  rintro ⟨i1, L2⟩ _ hb_7; unfold m_cocketref01_mulD_l1 at hb_7; try dsimp only at hb_7
  try dsimp only
  refine AWp.seq fun _ K_10 => ?_
  refine sg fun K k => ?_
  iterate 4 refine oo ?_
  refine AOps.nil (k _ ?_)
  refine cd hb_7 (fun hb_7 => ?_) (fun hb_7 => ?_)
  ·refine AWp.skip ?_
   refine K_10 _ ?_
   refine jn (α := (List Int)) [0, 1, 6] [] (fun i t => (5, .slc 1000 0 i.length) :: t) (fun i t => (1000, ⟨3, 1, dl (lenc (PD.int .i64) i)⟩) :: t) hb_7 ?_ ?_
   ·intro _ hj_13
    refine AWp.block ?_
    refine sg fun K k => ?_
    refine oo ?_
    refine AOps.nil (k _ ?_)
    refine jn (α := (Int × (List Int))) [0, 1, 6] [] (fun i t => (5, .slc 1000 0 i.2.length) :: (7, .d (.int .i64 i.1)) :: t) (fun i t => (1000, ⟨3, 1, dl (lenc (PD.int .i64) i.2)⟩) :: t) hj_13 ?_ ?_
    ·intro _ hj_15
     refine sg fun K k => ?_
     refine oo ?_
     refine AOps.nil (k _ ?_)
     refine AWp.block ?_
     obtain ⟨x_20, hl_17, h2_18⟩ := bind_some hj_15
     refine lp (S := (Int × Int × (List Int))) [0, 1, 6] [] (fun i t => (5, .slc 1000 0 i.2.2.length) :: (7, .d (.int .i64 i.1)) :: (8, .d (.int .i64 i.2.1)) :: t) (fun i t => (1000, ⟨3, 1, dl (lenc (PD.int .i64) i.2.2)⟩) :: t) hl_17 ?_ ?_; exact sb; clear hl_17
     rintro ⟨carry2, k1, L5⟩ _ hb_19; unfold m_cocketref01_mulD_l2 at hb_19; try dsimp only at hb_19
     try dsimp only
     refine AWp.seq fun _ K_22 => ?_
     refine sg fun K k => ?_
     iterate 4 refine oo ?_
     refine AOps.nil (k _ ?_)
     refine cd hb_19 (fun hb_19 => ?_) (fun hb_19 => ?_)
     ·refine AWp.skip ?_
      refine K_22 _ ?_
      refine AWp.seq fun _ K_24 => ?_
      refine AWp.block ?_
      refine sd mo fun K k => ?_
      obtain ⟨e1, ⟨f_25, f_26, f_27, f_28⟩, hb_19⟩ := idx_bind hb_19
      iterate 5 refine dd ?_
      refine dd ?_ (by intro K k; simp (disch := omega) only [go_sem, f_27, ↓reduceIte]; exact k)
      obtain ⟨e2, ⟨f_29, f_30, f_31, f_32⟩, hb_19⟩ := idx_bind hb_19
      iterate 3 refine dd ?_
      refine dd ?_ (by intro K k; simp (disch := omega) only [go_sem, f_31, ↓reduceIte]; exact k)
      obtain ⟨e3, ⟨f_33, f_34, f_35, f_36⟩, hb_19⟩ := idx_bind hb_19
      iterate 3 refine dd ?_
      refine dd ?_ (by intro K k; simp (disch := omega) only [go_sem, f_35, ↓reduceIte]; exact k)
      iterate 5 refine dd ?_
      refine DOps.nil (by kernel_rfl) (k _ ?_)
      refine sg fun K k => ?_
      obtain ⟨e4, ⟨f_37, f_38, f_39, f_40⟩, hb_19⟩ := idx_bind hb_19
      iterate 7 refine oo ?_
      refine oo ?_ (by intro K k; simp (disch := omega) only [go_sem, f_39, ↓reduceIte]; exact k)
      refine AOps.nil (k _ ?_)
      refine AWp.reg ?_
      iterate 3 refine oo ?_
      refine AOps.nil ?_
      refine K_24 _ ?_
      refine AWp.reg ?_
      iterate 3 refine oo ?_
      refine AOps.nil ?_
      exact ln hb_19 sb
     ·refine AWp.exit ?_
      refine lx hb_19 fun hx => ?_; cases hx; try dsimp only at h2_18
      cases h2_18; exact sb
    ·rintro ⟨carry1, L4⟩ hj_13; dsimp only at hj_13 ⊢
     refine AWp.reg ?_
     obtain ⟨e5, ⟨f_41, f_42, f_43, f_44⟩, hj_13⟩ := idx_bind hj_13
     try simp only [Int.toNat_natCast] at f_43 f_44
     iterate 7 refine oo ?_
     refine oo ?_ (by intro K k; simp (disch := omega) only [go_sem, f_43, ↓reduceIte]; exact k)
     refine AOps.nil ?_
     cases hj_13; exact sb
   ·rintro L3 hb_7; dsimp only at hb_7 ⊢
    refine AWp.reg ?_
    iterate 3 refine oo ?_
    refine AOps.nil ?_
    exact ln hb_7 sb
  ·refine AWp.exit ?_
   refine lx hb_7 fun hx => ?_; cases hx; try dsimp only at h2_6
   cases h2_6; exact sb
 ·rintro L1 h; dsimp only at h ⊢
  refine sg fun K k => ?_
  refine oo ?_
  refine AOps.sub (τ := ⟨[(62, .d (.imm 1 (lenc (PD.int .i64) L1)))], [], [], none⟩) sc ?_
  obtain ⟨r1, hx_45, h⟩ := bind_some h
  refine cl (m_cocketref01_trim_ok L1 _ hx_45) ?_
  refine oo ?_
  refine AOps.nil (k _ ?_)
  refine AWp.ret ?_
  cases h; exact rt
end Go.Pv.Tryd

namespace Go.Pv.Tryd
open Go.Proofs Go.Pv
theorem m_cocketref01_cmpD_ok (a1 : (List Int)) (b1 : (List Int)) (r : Int) (h : m_cocketref01_cmpD a1 b1 = some r) : PureFn Tryd.prog G 83 [.d (.imm 1 (lenc (PD.int .i64) a1)), .d (.imm 1 (lenc (PD.int .i64) b1))] (.d (.int .i64 r)) := by
 unfold m_cocketref01_cmpD at h
 refine pf Tryd.func83 Tryd.ntmps83 ?_
 refine sg fun K k => ?_
 refine oo ?_
 refine AOps.nil (k _ ?_)
 refine AWp.seq fun _ K_1 => ?_
 refine sg fun K k => ?_
 iterate 5 refine oo ?_
 refine AOps.nil (k _ ?_)
 refine cd h (fun h => ?_) (fun h => ?_)
 ·refine sg fun K k => ?_
  refine oo ?_
  refine AOps.nil (k _ ?_)
  refine AWp.ret ?_
  cases h; exact rt
 ·refine AWp.skip ?_
  refine K_1 _ ?_
  refine AWp.seq fun _ K_3 => ?_
  refine sg fun K k => ?_
  iterate 5 refine oo ?_
  refine AOps.nil (k _ ?_)
  refine cd h (fun h => ?_) (fun h => ?_)
  ·refine sg fun K k => ?_
   refine oo ?_
   refine AOps.nil (k _ ?_)
   refine AWp.ret ?_
   cases h; exact rt
  ·refine AWp.skip ?_
   refine K_3 _ ?_
   refine jm (ι := Unit) [] [] (fun i t => t) (fun i t => t) .inl h ?_ ?_
   ·intro _ hj_6 h
    refine sg fun K k => ?_
    iterate 4 refine oo ?_
    refine AOps.nil (k _ ?_)
    refine AWp.block ?_
    obtain ⟨x_11, hl_8, h2_9⟩ := bind_some hj_6
    refine lp (S := Int) [0, 1] [] (fun i t => (5, .d (.int .i64 i)) :: t) (fun i t => t) hl_8 ?_ ?_; exact sb; clear hl_8
    rintro i1 _ hb_10; unfold m_cocketref01_cmpD_l1 at hb_10; try dsimp only at hb_10
    try dsimp only
    refine AWp.seq fun _ K_13 => ?_
    refine sg fun K k => ?_
    iterate 2 refine oo ?_
    refine AOps.nil (k _ ?_)
    refine cd hb_10 (fun hb_10 => ?_) (fun hb_10 => ?_)
    ·refine AWp.skip ?_
     refine K_13 _ ?_
     refine AWp.seq fun _ K_15 => ?_
     refine AWp.block ?_
     refine AWp.seq fun _ K_16 => ?_
     refine sd mo fun K k => ?_
     obtain ⟨e1, ⟨f_17, f_18, f_19, f_20⟩, hb_10⟩ := idx_bind hb_10
     iterate 3 refine dd ?_
     refine dd ?_ (by intro K k; simp (disch := omega) only [go_sem, f_19, ↓reduceIte]; exact k)
     obtain ⟨e2, ⟨f_21, f_22, f_23, f_24⟩, hb_10⟩ := idx_bind hb_10
     iterate 3 refine dd ?_
     refine dd ?_ (by intro K k; simp (disch := omega) only [go_sem, f_23, ↓reduceIte]; exact k)
     refine dd ?_
     refine DOps.nil (by kernel_rfl) (k _ ?_)
     refine cd hb_10 (fun hb_10 => ?_) (fun hb_10 => ?_)
     ·refine sg fun K k => ?_
      refine oo ?_
      refine AOps.nil (k _ ?_)
      refine AWp.ret ?_
      refine lx hb_10 fun hx => ?_; cases hx; try dsimp only at h2_9
      cases h2_9; try dsimp only at h
      cases h; exact rt
     ·refine AWp.skip ?_
      refine K_16 _ ?_
      refine sd mo fun K k => ?_
      obtain ⟨e3, ⟨f_26, f_27, f_28, f_29⟩, hb_10⟩ := idx_bind hb_10
      iterate 3 refine dd ?_
      refine dd ?_ (by intro K k; simp (disch := omega) only [go_sem, f_28, ↓reduceIte]; exact k)
      obtain ⟨e4, ⟨f_30, f_31, f_32, f_33⟩, hb_10⟩ := idx_bind hb_10
      iterate 3 refine dd ?_
      refine dd ?_ (by intro K k; simp (disch := omega) only [go_sem, f_32, ↓reduceIte]; exact k)
      refine dd ?_
      refine DOps.nil (by kernel_rfl) (k _ ?_)
      refine cd hb_10 (fun hb_10 => ?_) (fun hb_10 => ?_)
      ·refine sg fun K k => ?_
       refine oo ?_
       refine AOps.nil (k _ ?_)
       refine AWp.ret ?_
       refine lx hb_10 fun hx => ?_; cases hx; try dsimp only at h2_9
       cases h2_9; try dsimp only at h
       cases h; exact rt
      ·refine AWp.skip ?_
       refine K_15 _ ?_
       refine AWp.reg ?_
       iterate 3 refine oo ?_
       refine AOps.nil ?_
       exact ln hb_10 sb
    ·refine AWp.exit ?_
     refine lx hb_10 fun hx => ?_; cases hx; try dsimp only at h2_9
     exact ln h2_9 sb
   ·rintro _ h; dsimp only at h ⊢
    refine sg fun K k => ?_
    refine oo ?_
    refine AOps.nil (k _ ?_)
    refine AWp.ret ?_
    cases h; exact rt
end Go.Pv.Tryd

namespace Go.Pv.Tryd
open Go.Proofs Go.Pv
theorem m_cocketref01_subD_ok (a1 : (List Int)) (b1 : (List Int)) (r : (List Int)) (h : m_cocketref01_subD a1 b1 = some r) : PureFn Tryd.prog G 101 [.d (.imm 1 (lenc (PD.int .i64) a1)), .d (.imm 1 (lenc (PD.int .i64) b1))] (.d (.imm 1 (lenc (PD.int .i64) r))) := by
 unfold m_cocketref01_subD at h
 refine pf Tryd.func101 Tryd.ntmps101 ?_
 refine sg fun K k => ?_
 refine oo ?_
 refine AOps.nil (k _ ?_)
 refine sg fun K k => ?_
 refine oo ?_
 refine AOps.nil (k _ ?_)
 refine AWp.sub (Sub.void 5 3 1 1000 (by rfl) (by rfl) (by decide) (by decide)) ?_
 simp only [eput, hput, reduceCtorEq, ↓reduceIte, Nat.reduceAdd, Nat.reduceMul, Nat.reduceLT, Nat.reduceLeDiff, Nat.reduceEqDiff, Nat.reduceBEq, Int.reduceToNat]
 refine sg fun K k => ?_
 refine oo ?_
 refine AOps.nil (k _ ?_)
 refine jn (α := (List Int)) [] [] (fun i t => (5, .slc 1000 0 i.length) :: t) (fun i t => (1000, ⟨3, 1, dl (lenc (PD.int .i64) i)⟩) :: t) h ?_ ?_
 ·intro _ hj_2
  refine sg fun K k => ?_
  refine oo ?_
  refine AOps.nil (k _ ?_)
  refine AWp.block ?_
  obtain ⟨x_7, hl_4, h2_5⟩ := bind_some hj_2
  refine lp (S := (Int × Int × (List Int))) [0, 1] [] (fun i t => (5, .slc 1000 0 i.2.2.length) :: (6, .d (.int .i64 i.1)) :: (7, .d (.int .i64 i.2.1)) :: t) (fun i t => (1000, ⟨3, 1, dl (lenc (PD.int .i64) i.2.2)⟩) :: t) hl_4 ?_ ?_; exact sb; clear hl_4
  rintro ⟨borrow1, i1, L2⟩ _ hb_6; unfold m_cocketref01_subD_l1 at hb_6; try dsimp only at hb_6
  try dsimp only
  refine AWp.seq fun _ K_9 => ?_
  refine sg fun K k => ?_
  iterate 4 refine oo ?_
  refine AOps.nil (k _ ?_)
  refine cd hb_6 (fun hb_6 => ?_) (fun hb_6 => ?_)
  ·refine AWp.skip ?_
   refine K_9 _ ?_
   refine AWp.seq fun _ K_11 => ?_
   refine AWp.block ?_
   refine sg fun K k => ?_
   obtain ⟨e1, ⟨f_12, f_13, f_14, f_15⟩, hb_6⟩ := idx_bind hb_6
   iterate 3 refine oo ?_
   refine oo ?_ (by intro K k; simp (disch := omega) only [go_sem, f_14, ↓reduceIte]; exact k)
   iterate 3 refine oo ?_
   refine AOps.nil (k _ ?_)
   refine jn (α := Int) [0, 1, 5, 7] [1000] (fun i t => (8, .d (.int .i64 i)) :: t) (fun i t => t) hb_6 ?_ ?_
   ·intro _ hj_17
    refine sg fun K k => ?_
    iterate 4 refine oo ?_
    refine AOps.nil (k _ ?_)
    refine cd hj_17 (fun hj_17 => ?_) (fun hj_17 => ?_)
    ·refine AWp.reg ?_
     obtain ⟨e2, ⟨f_19, f_20, f_21, f_22⟩, hj_17⟩ := idx_bind hj_17
     iterate 4 refine oo ?_
     refine oo ?_ (by intro K k; simp (disch := omega) only [go_sem, f_21, ↓reduceIte]; exact k)
     iterate 2 refine oo ?_
     refine AOps.nil ?_
     cases hj_17; exact sb
    ·refine AWp.skip ?_
     cases hj_17; exact sb
   ·rintro s1 hb_6; dsimp only at hb_6 ⊢
    refine sg fun K k => ?_
    refine oo ?_
    refine AOps.nil (k _ ?_)
    refine jn (α := (Int × Int)) [0, 1, 5, 7] [1000] (fun i t => (6, .d (.int .i64 i.1)) :: (8, .d (.int .i64 i.2)) :: t) (fun i t => t) hb_6 ?_ ?_
    ·intro _ hj_24
     refine sg fun K k => ?_
     iterate 2 refine oo ?_
     refine AOps.nil (k _ ?_)
     refine cd hj_24 (fun hj_24 => ?_) (fun hj_24 => ?_)
     ·refine sg fun K k => ?_
      iterate 3 refine oo ?_
      refine AOps.nil (k _ ?_)
      refine AWp.reg ?_
      refine oo ?_
      refine AOps.nil ?_
      cases hj_24; exact sb
     ·refine AWp.skip ?_
      cases hj_24; exact sb
    ·rintro ⟨borrow2, s2⟩ hb_6; dsimp only at hb_6 ⊢
     refine AWp.reg ?_
     iterate 2 refine oo ?_
     refine ol ?_
     obtain ⟨hg_26, hb_6⟩ := guardO_some hb_6
     iterate 2 refine oo ?_
     refine AOps.nil ?_
     refine K_11 _ ?_
     refine AWp.reg ?_
     iterate 3 refine oo ?_
     refine AOps.nil ?_
     exact ln hb_6 sb
  ·refine AWp.exit ?_
   refine lx hb_6 fun hx => ?_; cases hx; try dsimp only at h2_5
   cases h2_5; exact sb
 ·rintro L1 h; dsimp only at h ⊢
  refine sg fun K k => ?_
  refine oo ?_
  refine AOps.sub (τ := ⟨[(39, .d (.imm 1 (lenc (PD.int .i64) L1)))], [], [], none⟩) sc ?_
  obtain ⟨r1, hx_27, h⟩ := bind_some h
  refine cl (m_cocketref01_trim_ok L1 _ hx_27) ?_
  refine oo ?_
  refine AOps.nil (k _ ?_)
  refine AWp.ret ?_
  cases h; exact rt
end Go.Pv.Tryd

namespace Go.Pv.Tryd
open Go.Proofs Go.Pv
theorem m_cocketref01_divD_ok (a1 : (List Int)) (b1 : (List Int)) (r : ((List Int) × (List Int))) (h : m_cocketref01_divD a1 b1 = some r) : PureFn Tryd.prog G 99 [.d (.imm 1 (lenc (PD.int .i64) a1)), .d (.imm 1 (lenc (PD.int .i64) b1))] (.tuple [.d (.imm 1 (lenc (PD.int .i64) r.1)), .d (.imm 1 (lenc (PD.int .i64) r.2))]) := by
 unfold m_cocketref01_divD at h
 refine pf Tryd.func99 Tryd.ntmps99 ?_
 refine sg fun K k => ?_
 iterate 2 refine oo ?_
 refine AOps.nil (k _ ?_)
 refine AWp.seq fun _ K_1 => ?_
 refine sg fun K k => ?_
 iterate 3 refine oo ?_
 refine AOps.nil (k _ ?_)
 refine cd h (fun h => ?_) (fun h => ?_)
 ·refine sg fun K k => ?_
  iterate 2 refine oo ?_
  refine AOps.nil (k _ ?_)
  refine AWp.ret ?_
  cases h; exact rt
 ·refine AWp.skip ?_
  refine K_1 _ ?_
  refine sg fun K k => ?_
  obtain ⟨hg_3, h⟩ := guardO_some h
  iterate 4 refine oo ?_
  refine AOps.nil (k _ ?_)
  refine sg fun K k => ?_
  refine oo ?_
  refine AOps.nil (k _ ?_)
  refine jn (α := ((List Int) × (List Int))) [] [] (fun i t => (6, .slc 1000 0 i.2.length) :: (7, .d (.imm 1 (lenc (PD.int .i64) i.1))) :: t) (fun i t => (1000, ⟨3, 1, dl (lenc (PD.int .i64) i.2)⟩) :: t) h ?_ ?_
  ·intro _ hj_5
   refine sg fun K k => ?_
   iterate 4 refine oo ?_
   refine AOps.nil (k _ ?_)
   refine AWp.block ?_
   obtain ⟨x_10, hl_7, h2_8⟩ := bind_some hj_5
   refine lp (S := ((List Int) × Int × (List Int))) [0, 1] [] (fun i t => (6, .slc 1000 0 i.2.2.length) :: (7, .d (.imm 1 (lenc (PD.int .i64) i.1))) :: (8, .d (.int .i64 i.2.1)) :: t) (fun i t => (1000, ⟨3, 1, dl (lenc (PD.int .i64) i.2.2)⟩) :: t) hl_7 ?_ ?_; exact sc; clear hl_7
   rintro ⟨rem2, i1, L2⟩ _ hb_9; unfold m_cocketref01_divD_l1 at hb_9; try dsimp only at hb_9
   try dsimp only
   refine AWp.seq fun _ K_12 => ?_
   refine sg fun K k => ?_
   iterate 2 refine oo ?_
   refine AOps.nil (k _ ?_)
   refine cd hb_9 (fun hb_9 => ?_) (fun hb_9 => ?_)
   ·refine AWp.skip ?_
    refine K_12 _ ?_
    refine jn (α := ((List Int) × (List Int))) [0, 1, 8] [] (fun i t => (6, .slc 1000 0 i.2.length) :: (7, .d (.imm 1 (lenc (PD.int .i64) i.1))) :: t) (fun i t => (1000, ⟨3, 1, dl (lenc (PD.int .i64) i.2)⟩) :: t) hb_9 ?_ ?_
    ·intro _ hj_15
     refine AWp.block ?_
     refine sg fun K k => ?_
     obtain ⟨e1, ⟨f_16, f_17, f_18, f_19⟩, hj_15⟩ := idx_bind hj_15
     iterate 3 refine oo ?_
     refine oo ?_ (by intro K k; simp (disch := omega) only [go_sem, f_18, ↓reduceIte]; exact k)
     iterate 2 refine oo ?_
     refine AOps.nil (k _ ?_)
     refine sg fun K k => ?_
     obtain ⟨hg_20, hj_15⟩ := guardO_some hj_15
     iterate 3 refine oo ?_
     refine AOps.sub (τ := ⟨[(0, .d (.imm 1 (lenc (PD.int .i64) a1))), (1, .d (.imm 1 (lenc (PD.int .i64) b1))), (6, .slc 1000 0 L2.length), (7, .d (.imm 1 (lenc (PD.int .i64) rem2))), (8, .d (.int .i64 i1)), (34, .d (.imm 1 (lenc (PD.int .i64) ([e1] ++ rem2))))], [(1000, ⟨3, 1, dl (lenc (PD.int .i64) L2)⟩)], [], none⟩) sc ?_
     obtain ⟨r1, hx_21, hj_15⟩ := bind_some hj_15
     refine cl (m_cocketref01_trim_ok ([e1] ++ rem2) _ hx_21) ?_
     refine oo ?_
     refine AOps.nil (k _ ?_)
     refine sg fun K k => ?_
     iterate 2 refine oo ?_
     refine AOps.nil (k _ ?_)
     refine jn (α := Int) [0, 1, 6, 7, 8] [1000] (fun i t => (10, .d (.int .i64 i)) :: t) (fun i t => t) hj_15 ?_ ?_
     ·intro _ hj_23
      refine AWp.block ?_
      obtain ⟨x_28, hl_25, h2_26⟩ := bind_some hj_23
      refine lp (S := (Int × Int)) [0, 1, 6, 7, 8] [1000] (fun i t => (10, .d (.int .i64 i.1)) :: (11, .d (.int .i64 i.2)) :: t) (fun i t => t) hl_25 ?_ ?_; exact sb; clear hl_25
      rintro ⟨lo2, hi1⟩ _ hb_27; unfold m_cocketref01_divD_l2 at hb_27; try dsimp only at hb_27
      try dsimp only
      refine AWp.seq fun _ K_30 => ?_
      refine sg fun K k => ?_
      iterate 3 refine oo ?_
      refine AOps.nil (k _ ?_)
      refine cd hb_27 (fun hb_27 => ?_) (fun hb_27 => ?_)
      ·refine AWp.skip ?_
       refine K_30 _ ?_
       refine AWp.block ?_
       refine sg fun K k => ?_
       iterate 6 refine oo ?_
       refine AOps.nil (k _ ?_)
       refine sg fun K k => ?_
       iterate 2 refine oo ?_
       refine ol ?_
       obtain ⟨r2, hx_32, hb_27⟩ := bind_some hb_27
       refine cl (m_cocketref01_trim_ok [(IntKind.i64.wrap ((IntKind.i64.wrap ((IntKind.i64.wrap (lo2 + hi1)) + 1)).tdiv 2))] _ hx_32) ?_
       obtain ⟨r3, hx_33, hb_27⟩ := bind_some hb_27
       refine cl (m_cocketref01_mulD_ok b1 r2 _ hx_33) ?_
       refine oo ?_
       refine AOps.nil (k _ ?_)
       refine sg fun K k => ?_
       iterate 2 refine oo ?_
       obtain ⟨r4, hx_34, hb_27⟩ := bind_some hb_27
       refine cl (m_cocketref01_cmpD_ok r3 r1 _ hx_34) ?_
       refine oo ?_
       refine AOps.nil (k _ ?_)
       refine cd hb_27 (fun hb_27 => ?_) (fun hb_27 => ?_)
       ·refine AWp.reg ?_
        iterate 2 refine oo ?_
        refine AOps.nil ?_
        exact ln hb_27 sb
       ·refine AWp.reg ?_
        iterate 3 refine oo ?_
        refine AOps.nil ?_
        exact ln hb_27 sb
      ·refine AWp.exit ?_
       refine lx hb_27 fun hx => ?_; cases hx; try dsimp only at h2_26
       cases h2_26; exact sb
     ·rintro lo1 hj_15; dsimp only at hj_15 ⊢
      refine sg fun K k => ?_
      obtain ⟨e2, ⟨f_36, f_37, f_38, f_39⟩, hj_15⟩ := idx_bind hj_15
      iterate 4 refine oo ?_
      refine oo ?_ (by intro K k; simp (disch := omega) only [go_sem, f_38, ↓reduceIte]; exact k)
      refine AOps.nil (k _ ?_)
      refine AWp.reg ?_
      iterate 3 refine oo ?_
      refine ol ?_
      obtain ⟨r5, hx_40, hj_15⟩ := bind_some hj_15
      refine cl (m_cocketref01_trim_ok [lo1] _ hx_40) ?_
      obtain ⟨r6, hx_41, hj_15⟩ := bind_some hj_15
      refine cl (m_cocketref01_mulD_ok b1 r5 _ hx_41) ?_
      obtain ⟨r7, hx_42, hj_15⟩ := bind_some hj_15
      refine cl (m_cocketref01_subD_ok r1 r6 _ hx_42) ?_
      refine oo ?_
      refine AOps.nil ?_
      cases hj_15; exact sb
    ·rintro ⟨rem3, L3⟩ hb_9; dsimp only at hb_9 ⊢
     refine AWp.reg ?_
     iterate 3 refine oo ?_
     refine AOps.nil ?_
     exact ln hb_9 sb
   ·refine AWp.exit ?_
    refine lx hb_9 fun hx => ?_; cases hx; try dsimp only at h2_8
    cases h2_8; exact sb
  ·rintro ⟨rem1, L1⟩ h; dsimp only at h ⊢
   refine sg fun K k => ?_
   refine oo ?_
   refine AOps.sub (τ := ⟨[(7, .d (.imm 1 (lenc (PD.int .i64) rem1))), (67, .d (.imm 1 (lenc (PD.int .i64) L1)))], [], [], none⟩) sc ?_
   obtain ⟨r8, hx_43, h⟩ := bind_some h
   refine cl (m_cocketref01_trim_ok L1 _ hx_43) ?_
   iterate 3 refine oo ?_
   refine AOps.nil (k _ ?_)
   refine AWp.ret ?_
   cases h; exact rt
end Go.Pv.Tryd

namespace Go.Pv.Tryd
open Go.Proofs Go.Pv
theorem m_cocketref01_gcdD_ok (a1 : (List Int)) (b1 : (List Int)) (r : (List Int)) (h : m_cocketref01_gcdD a1 b1 = some r) : PureFn Tryd.prog G 87 [.d (.imm 1 (lenc (PD.int .i64) a1)), .d (.imm 1 (lenc (PD.int .i64) b1))] (.d (.imm 1 (lenc (PD.int .i64) r))) := by
 unfold m_cocketref01_gcdD at h
 refine pf Tryd.func87 Tryd.ntmps87 ?_
 refine sg fun K k => ?_
 refine oo ?_
 refine AOps.nil (k _ ?_)
 refine jn (α := (List Int)) [] [] (fun i t => (0, .d (.imm 1 (lenc (PD.int .i64) i))) :: t) (fun i t => t) h ?_ ?_
 ·intro _ hj_2
  refine AWp.block ?_
  obtain ⟨x_7, hl_4, h2_5⟩ := bind_some hj_2
  refine lp (S := ((List Int) × (List Int))) [] [] (fun i t => (0, .d (.imm 1 (lenc (PD.int .i64) i.1))) :: (1, .d (.imm 1 (lenc (PD.int .i64) i.2))) :: t) (fun i t => t) hl_4 ?_ ?_; exact sb; clear hl_4
  rintro ⟨a3, b2⟩ _ hb_6; unfold m_cocketref01_gcdD_l1 at hb_6; try dsimp only at hb_6
  try dsimp only
  refine AWp.seq fun _ K_9 => ?_
  refine sg fun K k => ?_
  iterate 3 refine oo ?_
  refine AOps.nil (k _ ?_)
  refine cd hb_6 (fun hb_6 => ?_) (fun hb_6 => ?_)
  ·refine AWp.skip ?_
   refine K_9 _ ?_
   refine AWp.block ?_
   refine sg fun K k => ?_
   iterate 2 refine oo ?_
   obtain ⟨r1, hx_11, hb_6⟩ := bind_some hb_6
   refine cl (m_cocketref01_divD_ok a3 b2 _ hx_11) ?_
   iterate 5 refine oo ?_
   refine AOps.nil (k _ ?_)
   refine AWp.reg ?_
   iterate 4 refine oo ?_
   refine AOps.nil ?_
   exact ln hb_6 sb
  ·refine AWp.exit ?_
   refine lx hb_6 fun hx => ?_; cases hx; try dsimp only at h2_5
   cases h2_5; exact sb
 ·rintro a2 h; dsimp only at h ⊢
  refine sg fun K k => ?_
  iterate 2 refine oo ?_
  refine AOps.nil (k _ ?_)
  refine AWp.ret ?_
  cases h; exact rt
end Go.Pv.Tryd

namespace Go.Pv.Tryd
open Go.Proofs Go.Pv
theorem m_cocketref01_addD_ok (a1 : (List Int)) (b1 : (List Int)) (r : (List Int)) (h : m_cocketref01_addD a1 b1 = some r) : PureFn Tryd.prog G 100 [.d (.imm 1 (lenc (PD.int .i64) a1)), .d (.imm 1 (lenc (PD.int .i64) b1))] (.d (.imm 1 (lenc (PD.int .i64) r))) := by
 unfold m_cocketref01_addD at h
 refine pf Tryd.func100 Tryd.ntmps100 ?_
 refine sg fun K k => ?_
 refine oo ?_
 refine AOps.nil (k _ ?_)
 refine sg fun K k => ?_
 refine oo ?_
 refine AOps.nil (k _ ?_)
 refine AWp.sub (Sub.void 5 3 1 1000 (by rfl) (by rfl) (by decide) (by decide)) ?_
 simp only [eput, hput, reduceCtorEq, ↓reduceIte, Nat.reduceAdd, Nat.reduceMul, Nat.reduceLT, Nat.reduceLeDiff, Nat.reduceEqDiff, Nat.reduceBEq, Int.reduceToNat]
 refine sg fun K k => ?_
 refine oo ?_
 refine AOps.nil (k _ ?_)
 refine jn (α := (List Int)) [] [] (fun i t => (5, .slc 1000 0 i.length) :: t) (fun i t => (1000, ⟨3, 1, dl (lenc (PD.int .i64) i)⟩) :: t) h ?_ ?_
 ·intro _ hj_2
  refine sg fun K k => ?_
  refine oo ?_
  refine AOps.nil (k _ ?_)
  refine AWp.block ?_
  obtain ⟨x_7, hl_4, h2_5⟩ := bind_some hj_2
  refine lp (S := (Int × Int × (List Int))) [0, 1] [] (fun i t => (5, .slc 1000 0 i.2.2.length) :: (6, .d (.int .i64 i.1)) :: (7, .d (.int .i64 i.2.1)) :: t) (fun i t => (1000, ⟨3, 1, dl (lenc (PD.int .i64) i.2.2)⟩) :: t) hl_4 ?_ ?_; exact sb; clear hl_4
  rintro ⟨carry1, i1, L2⟩ _ hb_6; unfold m_cocketref01_addD_l1 at hb_6; try dsimp only at hb_6
  try dsimp only
  refine AWp.seq fun _ K_9 => ?_
  refine sg fun K k => ?_
  iterate 5 refine oo ?_
  refine ct 5 [0, 1, 5, 6, 7] [1000] (fun  t => (18, .d (.bool ((decide (i1 < (a1.length : Int))) || (decide (i1 < (b1.length : Int)))))) :: t) ?_ ?_
  ·rcases bt (decide (i1 < (a1.length : Int))) with hg_11 | hg_11
   ·rw [hg_11]
    iterate 5 refine oo ?_
    refine AOps.nil ?_
    exact sb
   ·rw [hg_11]
    iterate 5 refine oo ?_
    refine AOps.nil ?_
    exact sb
  refine oo ?_
  refine ct 3 [0, 1, 5, 6, 7] [1000] (fun  t => (22, .d (.bool (((decide (i1 < (a1.length : Int))) || (decide (i1 < (b1.length : Int)))) || (decide (0 < carry1))))) :: t) ?_ ?_
  ·rcases bt ((decide (i1 < (a1.length : Int))) || (decide (i1 < (b1.length : Int)))) with hg_13 | hg_13
   ·rw [hg_13]
    iterate 3 refine oo ?_
    refine AOps.nil ?_
    exact sb
   ·rw [hg_13]
    iterate 3 refine oo ?_
    refine AOps.nil ?_
    exact sb
  refine AOps.nil (k _ ?_)
  refine cd hb_6 (fun hb_6 => ?_) (fun hb_6 => ?_)
  ·refine AWp.skip ?_
   refine K_9 _ ?_
   refine AWp.seq fun _ K_15 => ?_
   refine AWp.block ?_
   refine sg fun K k => ?_
   iterate 2 refine oo ?_
   refine AOps.nil (k _ ?_)
   refine jn (α := Int) [0, 1, 5, 7] [1000] (fun i t => (8, .d (.int .i64 i)) :: t) (fun i t => t) hb_6 ?_ ?_
   ·intro _ hj_17
    refine sg fun K k => ?_
    iterate 4 refine oo ?_
    refine AOps.nil (k _ ?_)
    refine cd hj_17 (fun hj_17 => ?_) (fun hj_17 => ?_)
    ·refine AWp.reg ?_
     obtain ⟨e1, ⟨f_19, f_20, f_21, f_22⟩, hj_17⟩ := idx_bind hj_17
     iterate 4 refine oo ?_
     refine oo ?_ (by intro K k; simp (disch := omega) only [go_sem, f_21, ↓reduceIte]; exact k)
     iterate 2 refine oo ?_
     refine AOps.nil ?_
     cases hj_17; exact sb
    ·refine AWp.skip ?_
     cases hj_17; exact sb
   ·rintro s1 hb_6; dsimp only at hb_6 ⊢
    refine jn (α := Int) [0, 1, 5, 7] [1000] (fun i t => (8, .d (.int .i64 i)) :: t) (fun i t => t) hb_6 ?_ ?_
    ·intro _ hj_24
     refine sg fun K k => ?_
     iterate 4 refine oo ?_
     refine AOps.nil (k _ ?_)
     refine cd hj_24 (fun hj_24 => ?_) (fun hj_24 => ?_)
     ·refine AWp.reg ?_
      obtain ⟨e2, ⟨f_26, f_27, f_28, f_29⟩, hj_24⟩ := idx_bind hj_24
      iterate 4 refine oo ?_
      refine oo ?_ (by intro K k; simp (disch := omega) only [go_sem, f_28, ↓reduceIte]; exact k)
      iterate 2 refine oo ?_
      refine AOps.nil ?_
      cases hj_24; exact sb
     ·refine AWp.skip ?_
      cases hj_24; exact sb
    ·rintro s2 hb_6; dsimp only at hb_6 ⊢
     refine sg fun K k => ?_
     iterate 3 refine oo ?_
     refine ol ?_
     obtain ⟨hg_30, hb_6⟩ := guardO_some hb_6
     iterate 2 refine oo ?_
     refine AOps.nil (k _ ?_)
     refine AWp.reg ?_
     iterate 3 refine oo ?_
     refine AOps.nil ?_
     refine K_15 _ ?_
     refine AWp.reg ?_
     iterate 3 refine oo ?_
     refine AOps.nil ?_
     exact ln hb_6 sb
  ·refine AWp.exit ?_
   refine lx hb_6 fun hx => ?_; cases hx; try dsimp only at h2_5
   cases h2_5; exact sb
 ·rintro L1 h; dsimp only at h ⊢
  refine sg fun K k => ?_
  iterate 2 refine oo ?_
  refine AOps.nil (k _ ?_)
  refine AWp.ret ?_
  cases h; exact rt
end Go.Pv.Tryd

namespace Go.Pv.Tryd
open Go.Proofs Go.Pv
theorem m_cocketref01_Over_ok (a1 : Big) (b1 : Big) (r : (Big × Big)) (h : m_cocketref01_Over a1 b1 = some r) : PureFn Tryd.prog G 88 [.d (.agg [(.bool a1.Neg), (.imm 1 (lenc (PD.int .i64) a1.D))]), .d (.agg [(.bool b1.Neg), (.imm 1 (lenc (PD.int .i64) b1.D))])] (.tuple [.d (.agg [(.bool r.1.Neg), (.imm 1 (lenc (PD.int .i64) r.1.D))]), .d (.agg [(.bool r.2.Neg), (.imm 1 (lenc (PD.int .i64) r.2.D))])]) := by
 unfold m_cocketref01_Over at h
 refine pf Tryd.func88 Tryd.ntmps88 ?_
 refine sg fun K k => ?_
 iterate 4 refine oo ?_
 refine AOps.nil (k _ ?_)
 refine sg fun K k => ?_
 iterate 4 refine oo ?_
 obtain ⟨r1, hx_1, h⟩ := bind_some h
 refine cl (m_cocketref01_divD_ok a1.D b1.D _ hx_1) ?_
 iterate 5 refine oo ?_
 refine AOps.nil (k _ ?_)
 refine AWp.seq fun _ K_2 => ?_
 refine sg fun K k => ?_
 iterate 3 refine oo ?_
 refine AOps.nil (k _ ?_)
 refine cd h (fun h => ?_) (fun h => ?_)
 ·refine sg fun K k => ?_
  refine oo ?_
  obtain ⟨r2, hx_4, h⟩ := bind_some h
  refine cl (m_cocketref01_whole_ok false r1.1 _ hx_4) ?_
  refine oo ?_
  obtain ⟨r3, hx_5, h⟩ := bind_some h
  refine cl (m_cocketref01_whole_ok false r1.2 _ hx_5) ?_
  iterate 2 refine oo ?_
  refine AOps.nil (k _ ?_)
  refine AWp.ret ?_
  cases h; exact rt
 ·refine AWp.skip ?_
  refine K_2 _ ?_
  refine AWp.seq fun _ K_6 => ?_
  refine sg fun K k => ?_
  iterate 3 refine oo ?_
  refine AOps.nil (k _ ?_)
  refine cd h (fun h => ?_) (fun h => ?_)
  ·refine sg fun K k => ?_
   refine oo ?_
   obtain ⟨r4, hx_8, h⟩ := bind_some h
   refine cl (m_cocketref01_whole_ok true r1.1 _ hx_8) ?_
   iterate 3 refine oo ?_
   refine AOps.nil (k _ ?_)
   refine AWp.ret ?_
   cases h; exact rt
  ·refine AWp.skip ?_
   refine K_6 _ ?_
   refine sd mo fun K k => ?_
   refine dd ?_
   refine ddl ?_
   obtain ⟨r5, hx_9, h⟩ := bind_some h
   refine dcl (m_cocketref01_addD_ok r1.1 [1] _ hx_9) ?_
   obtain ⟨r6, hx_10, h⟩ := bind_some h
   refine dcl (m_cocketref01_whole_ok true r5 _ hx_10) ?_
   iterate 3 refine dd ?_
   obtain ⟨r7, hx_11, h⟩ := bind_some h
   refine dcl (m_cocketref01_subD_ok b1.D r1.2 _ hx_11) ?_
   obtain ⟨r8, hx_12, h⟩ := bind_some h
   refine dcl (m_cocketref01_whole_ok false r7 _ hx_12) ?_
   iterate 2 refine dd ?_
   refine DOps.nil (by kernel_rfl) (k _ ?_)
   refine AWp.ret ?_
   cases h; exact rt
end Go.Pv.Tryd

namespace Go.Pv.Tryd
open Go.Proofs Go.Pv
theorem m_cocketref01_lowest_ok (n1 : Big) (d1 : Big) (r : Q) (h : m_cocketref01_lowest n1 d1 = some r) : PureFn Tryd.prog G 72 [.d (.agg [(.bool n1.Neg), (.imm 1 (lenc (PD.int .i64) n1.D))]), .d (.agg [(.bool d1.Neg), (.imm 1 (lenc (PD.int .i64) d1.D))])] (.d (.agg [(.bool r.N.Neg), (.imm 1 (lenc (PD.int .i64) r.N.D)), (.bool r.D.Neg), (.imm 1 (lenc (PD.int .i64) r.D.D))])) := by
 unfold m_cocketref01_lowest at h
 refine pf Tryd.func72 Tryd.ntmps72 ?_
 refine sg fun K k => ?_
 iterate 3 refine oo ?_
 refine AOps.nil (k _ ?_)
 refine jn (α := (Big × Big)) [4] [1002] (fun i t => (2, .ptr 1000 0 0) :: (3, .ptr 1001 0 0) :: t) (fun i t => (1000, ⟨57, 2, [.d (.agg [(.bool i.1.Neg), (.imm 1 (lenc (PD.int .i64) i.1.D))])]⟩) :: (1001, ⟨57, 2, [.d (.agg [(.bool i.2.Neg), (.imm 1 (lenc (PD.int .i64) i.2.D))])]⟩) :: t) h ?_ ?_
 ·intro _ hj_2
  refine sg fun K k => ?_
  iterate 2 refine oo ?_
  refine AOps.nil (k _ ?_)
  refine cd hj_2 (fun hj_2 => ?_) (fun hj_2 => ?_)
  ·refine sg fun K k => ?_
   refine oo ?_
   obtain ⟨r1, hx_4, hj_2⟩ := bind_some hj_2
   refine cl (m_cocketref01_Neg_ok n1 _ hx_4) ?_
   refine oo ?_
   refine AOps.nil (k _ ?_)
   refine AWp.reg ?_
   refine oo ?_
   obtain ⟨r2, hx_5, hj_2⟩ := bind_some hj_2
   refine cl (m_cocketref01_Neg_ok d1 _ hx_5) ?_
   refine oo ?_
   refine AOps.nil ?_
   cases hj_2; exact sb
  ·refine AWp.skip ?_
   cases hj_2; exact sb
 ·rintro ⟨c1, c2⟩ h; dsimp only at h ⊢
  refine sg fun K k => ?_
  iterate 4 refine oo ?_
  obtain ⟨r3, hx_6, h⟩ := bind_some h
  refine cl (m_cocketref01_gcdD_ok c1.D c2.D _ hx_6) ?_
  obtain ⟨r4, hx_7, h⟩ := bind_some h
  refine cl (m_cocketref01_whole_ok false r3 _ hx_7) ?_
  iterate 2 refine oo ?_
  refine AOps.nil (k _ ?_)
  refine sg fun K k => ?_
  iterate 2 refine oo ?_
  obtain ⟨r5, hx_8, h⟩ := bind_some h
  refine cl (m_cocketref01_Over_ok c1 r4 _ hx_8) ?_
  iterate 7 refine oo ?_
  refine AOps.nil (k _ ?_)
  refine sg fun K k => ?_
  iterate 2 refine oo ?_
  obtain ⟨r6, hx_9, h⟩ := bind_some h
  refine cl (m_cocketref01_Over_ok c2 r4 _ hx_9) ?_
  iterate 7 refine oo ?_
  refine AOps.nil (k _ ?_)
  refine sg fun K k => ?_
  iterate 4 refine oo ?_
  refine AOps.nil (k _ ?_)
  refine AWp.ret ?_
  cases h; exact rt
end Go.Pv.Tryd

namespace Go.Pv.Tryd
open Go.Proofs Go.Pv
theorem m_cocketref01_Frac_ok (n1 : Int) (d1 : Int) (r : Q) (h : m_cocketref01_Frac n1 d1 = some r) : PureFn Tryd.prog G 41 [.d (.int .i64 n1), .d (.int .i64 d1)] (.d (.agg [(.bool r.N.Neg), (.imm 1 (lenc (PD.int .i64) r.N.D)), (.bool r.D.Neg), (.imm 1 (lenc (PD.int .i64) r.D.D))])) := by
 unfold m_cocketref01_Frac at h
 refine pf Tryd.func41 Tryd.ntmps41 ?_
 refine sg fun K k => ?_
 refine oo ?_
 refine AOps.nil (k _ ?_)
 refine sg fun K k => ?_
 refine oo ?_
 obtain ⟨r1, hx_1, h⟩ := bind_some h
 refine cl (m_cocketref01_Of_ok n1 _ hx_1) ?_
 refine oo ?_
 obtain ⟨r2, hx_2, h⟩ := bind_some h
 refine cl (m_cocketref01_Of_ok d1 _ hx_2) ?_
 obtain ⟨r3, hx_3, h⟩ := bind_some h
 refine cl (m_cocketref01_lowest_ok r1 r2 _ hx_3) ?_
 refine oo ?_
 refine AOps.nil (k _ ?_)
 refine AWp.ret ?_
 cases h; exact rt
end Go.Pv.Tryd

namespace Go.Pv.Tryd
open Go.Proofs Go.Pv
theorem m_cocketref01_Times_ok (a1 : Big) (b1 : Big) (r : Big) (h : m_cocketref01_Times a1 b1 = some r) : PureFn Tryd.prog G 71 [.d (.agg [(.bool a1.Neg), (.imm 1 (lenc (PD.int .i64) a1.D))]), .d (.agg [(.bool b1.Neg), (.imm 1 (lenc (PD.int .i64) b1.D))])] (.d (.agg [(.bool r.Neg), (.imm 1 (lenc (PD.int .i64) r.D))])) := by
 unfold m_cocketref01_Times at h
 refine pf Tryd.func71 Tryd.ntmps71 ?_
 refine sg fun K k => ?_
 iterate 3 refine oo ?_
 refine AOps.nil (k _ ?_)
 refine sd mo fun K k => ?_
 iterate 9 refine dd ?_
 obtain ⟨r1, hx_1, h⟩ := bind_some h
 refine dcl (m_cocketref01_mulD_ok a1.D b1.D _ hx_1) ?_
 obtain ⟨r2, hx_2, h⟩ := bind_some h
 refine dcl (m_cocketref01_whole_ok (!(a1.Neg == b1.Neg)) r1 _ hx_2) ?_
 refine dd ?_
 refine DOps.nil (by kernel_rfl) (k _ ?_)
 refine AWp.ret ?_
 cases h; exact rt
end Go.Pv.Tryd

namespace Go.Pv.Tryd
open Go.Proofs Go.Pv
theorem m_cocketref01_Mul_ok (a1 : Q) (b1 : Q) (r : Q) (h : m_cocketref01_Mul a1 b1 = some r) : PureFn Tryd.prog G 43 [.d (.agg [(.bool a1.N.Neg), (.imm 1 (lenc (PD.int .i64) a1.N.D)), (.bool a1.D.Neg), (.imm 1 (lenc (PD.int .i64) a1.D.D))]), .d (.agg [(.bool b1.N.Neg), (.imm 1 (lenc (PD.int .i64) b1.N.D)), (.bool b1.D.Neg), (.imm 1 (lenc (PD.int .i64) b1.D.D))])] (.d (.agg [(.bool r.N.Neg), (.imm 1 (lenc (PD.int .i64) r.N.D)), (.bool r.D.Neg), (.imm 1 (lenc (PD.int .i64) r.D.D))])) := by
 unfold m_cocketref01_Mul at h
 refine pf Tryd.func43 Tryd.ntmps43 ?_
 refine sg fun K k => ?_
 iterate 3 refine oo ?_
 refine AOps.nil (k _ ?_)
 refine sd mo fun K k => ?_
 iterate 4 refine dd ?_
 obtain ⟨r1, hx_1, h⟩ := bind_some h
 refine dcl (m_cocketref01_Times_ok a1.N b1.N _ hx_1) ?_
 iterate 4 refine dd ?_
 obtain ⟨r2, hx_2, h⟩ := bind_some h
 refine dcl (m_cocketref01_Times_ok a1.D b1.D _ hx_2) ?_
 obtain ⟨r3, hx_3, h⟩ := bind_some h
 refine dcl (m_cocketref01_lowest_ok r1 r2 _ hx_3) ?_
 refine dd ?_
 refine DOps.nil (by kernel_rfl) (k _ ?_)
 refine AWp.ret ?_
 cases h; exact rt
end Go.Pv.Tryd

namespace Go.Pv.Tryd
open Go.Proofs Go.Pv
theorem m_cocketlaw01_turned_ok (l1 : (List Offer)) (r : (List Offer)) (h : m_cocketlaw01_turned l1 = some r) : PureFn Tryd.prog G 45 [.d (.imm 4 (lenc Offer.pd l1))] (.d (.imm 4 (lenc Offer.pd r))) := by
 unfold m_cocketlaw01_turned at h
 refine pf Tryd.func45 Tryd.ntmps45 ?_
 refine sg fun K k => ?_
 refine oo ?_
 refine AOps.nil (k _ ?_)
 refine sg fun K k => ?_
 refine oo ?_
 refine AOps.nil (k _ ?_)
 refine AWp.sub (Sub.void 3 43 4 1000 (by rfl) (by rfl) (by decide) (by decide)) ?_
 simp only [eput, hput, reduceCtorEq, ↓reduceIte, Nat.reduceAdd, Nat.reduceMul, Nat.reduceLT, Nat.reduceLeDiff, Nat.reduceEqDiff, Nat.reduceBEq, Int.reduceToNat]
 refine jn (α := (List Offer)) [] [] (fun i t => (3, .slc 1000 0 i.length) :: t) (fun i t => (1000, ⟨43, 4, dl (lenc Offer.pd i)⟩) :: t) h ?_ ?_
 ·intro _ hj_2
  refine sg fun K k => ?_
  refine oo ?_
  refine AOps.nil (k _ ?_)
  refine AWp.block ?_
  obtain ⟨x_7, hl_4, h2_5⟩ := bind_some hj_2
  refine lp (S := (Int × (List Offer))) [0] [] (fun i t => (3, .slc 1000 0 i.2.length) :: (4, .d (.int .i64 i.1)) :: t) (fun i t => (1000, ⟨43, 4, dl (lenc Offer.pd i.2)⟩) :: t) hl_4 ?_ ?_; exact sb; clear hl_4
  rintro ⟨i1, L2⟩ _ hb_6; unfold m_cocketlaw01_turned_l1 at hb_6; try dsimp only at hb_6
  try dsimp only
  refine AWp.seq fun _ K_9 => ?_
  refine sg fun K k => ?_
  iterate 4 refine oo ?_
  refine AOps.nil (k _ ?_)
  refine cd hb_6 (fun hb_6 => ?_) (fun hb_6 => ?_)
  ·refine AWp.skip ?_
   refine K_9 _ ?_
   refine AWp.seq fun _ K_11 => ?_
   refine AWp.block ?_
   refine AWp.draw mo [] trivial ?_
   obtain ⟨e1, ⟨f_12, f_13, f_14, f_15⟩, hb_6⟩ := idx_bind hb_6
   iterate 5 refine dd ?_
   refine dd ?_ (by intro K k; simp (disch := omega) only [go_sem, f_14, ↓reduceIte]; exact k)
   iterate 4 refine dd ?_
   refine dd ?_ (by intro K k; simp (disch := omega) only [go_sem, f_14, ↓reduceIte]; exact k)
   iterate 4 refine dd ?_
   refine dd ?_ (by intro K k; simp (disch := omega) only [go_sem, f_14, ↓reduceIte]; exact k)
   iterate 4 refine dd ?_
   refine dd ?_ (by intro K k; simp (disch := omega) only [go_sem, f_14, ↓reduceIte]; exact k)
   refine dd ?_
   refine ddl ?_
   obtain ⟨hg_16, hb_6⟩ := guardO_some hb_6
   iterate 2 refine dd ?_
   refine DOps.nil (by kernel_rfl) ?_
   refine K_11 _ ?_
   refine AWp.reg ?_
   iterate 3 refine oo ?_
   refine AOps.nil ?_
   exact ln hb_6 sb
  ·refine AWp.exit ?_
   refine lx hb_6 fun hx => ?_; cases hx; try dsimp only at h2_5
   cases h2_5; exact sb
 ·rintro L1 h; dsimp only at h ⊢
  refine sg fun K k => ?_
  iterate 2 refine oo ?_
  refine AOps.nil (k _ ?_)
  refine AWp.ret ?_
  cases h; exact rt
end Go.Pv.Tryd

namespace Go.Pv.Tryd
open Go.Proofs Go.Pv
theorem m_rate_market_follow_ok (m1 : Market) (list1 : (List Int)) (r : (Ratio × (List Int) × Bool)) (h : m_rate_market_follow m1 list1 = some r) : NewFn Tryd.prog G 64 [.d (.agg [(.int .i64 m1.n), (.imm 4 (lenc Offer.pd m1.offers))]), .d (.imm 1 (lenc (PD.int .i64) list1))] (fun q => .tuple [.d (.agg [(.int .i64 r.1.Num), (.int .i64 r.1.Den)]), .slc q 0 r.2.1.length, .d (.bool r.2.2)]) 3 1 (lenc (PD.int .i64) r.2.1) := by
 unfold m_rate_market_follow at h
 refine NewFn.pf Tryd.func64 Tryd.ntmps64 ?_
 refine sg fun K k => ?_
 iterate 4 refine oo ?_
 refine AOps.nil (k _ ?_)
 refine AWp.sub (Sub.void 5 3 1 1002 (by rfl) (by rfl) (by decide) (by decide)) ?_
 simp only [eput, hput, reduceCtorEq, ↓reduceIte, Nat.reduceAdd, Nat.reduceMul, Nat.reduceLT, Nat.reduceLeDiff, Nat.reduceEqDiff, Nat.reduceBEq, Int.reduceToNat]
 refine sg fun K k => ?_
 iterate 2 refine oo ?_
 refine AOps.nil (k _ ?_)
 refine jm (ι := (Ratio × (List Int))) [] [] (fun i t => (4, .ptr 1001 0 0) :: (5, .slc 1002 0 i.2.length) :: t) (fun i t => (1001, ⟨26, 2, [.d (.agg [(.int .i64 i.1.Num), (.int .i64 i.1.Den)])]⟩) :: (1002, ⟨3, 1, dl (lenc (PD.int .i64) i.2)⟩) :: t) .inl h ?_ ?_
 ·intro _ hj_2 h
  refine sg fun K k => ?_
  iterate 3 refine oo ?_
  refine AOps.nil (k _ ?_)
  refine AWp.block ?_
  obtain ⟨x_7, hl_4, h2_5⟩ := bind_some hj_2
  refine lp (S := (Int × Ratio × (List Int))) [1, 2, 11, 12] [1000] (fun i t => (4, .ptr 1001 0 0) :: (5, .slc 1002 0 i.2.2.length) :: (13, .d (.int .i64 i.1)) :: t) (fun i t => (1001, ⟨26, 2, [.d (.agg [(.int .i64 i.2.1.Num), (.int .i64 i.2.1.Den)])]⟩) :: (1002, ⟨3, 1, dl (lenc (PD.int .i64) i.2.2)⟩) :: t) hl_4 ?_ ?_; exact sb; clear hl_4
  rintro ⟨v1, c2, L2⟩ _ hb_6; unfold m_rate_market_follow_l1 at hb_6; try dsimp only at hb_6
  try dsimp only
  refine sg fun K k => ?_
  refine oo ?_
  refine AOps.nil (k _ ?_)
  refine AWp.seq fun _ K_9 => ?_
  refine cd hb_6 (fun hb_6 => ?_) (fun hb_6 => ?_)
  ·refine AWp.skip ?_
   refine K_9 _ ?_
   refine jm (ι := (Ratio × (List Int))) [1, 2, 11, 12, 13] [1000] (fun i t => (4, .ptr 1001 0 0) :: (5, .slc 1002 0 i.2.length) :: t) (fun i t => (1001, ⟨26, 2, [.d (.agg [(.int .i64 i.1.Num), (.int .i64 i.1.Den)])]⟩) :: (1002, ⟨3, 1, dl (lenc (PD.int .i64) i.2)⟩) :: t) .inl hb_6 ?_ ?_
   ·intro _ hj_12 hb_6
    refine AWp.block ?_
    refine sg fun K k => ?_
    obtain ⟨e1, ⟨f_13, f_14, f_15, f_16⟩, hj_12⟩ := idx_bind hj_12
    iterate 2 refine oo ?_
    refine oo ?_ (by intro K k; simp (disch := omega) only [go_sem, f_15, ↓reduceIte]; exact k)
    iterate 2 refine oo ?_
    refine AOps.nil (k _ ?_)
    refine AWp.seq fun _ K_17 => ?_
    refine sd mo fun K k => ?_
    iterate 3 refine dd ?_
    rcases bt (decide (e1 < 0)) with hg_18 | hg_18
    ·rw [hg_18]
     rw [hg_18, cond_true] at hj_12
     iterate 29 refine dd ?_
     refine DOps.nil (by kernel_rfl) (k _ ?_)
     refine cdt ?_
     refine sg fun K k => ?_
     iterate 4 refine oo ?_
     refine AOps.nil (k _ ?_)
     refine AWp.sub (Sub.void 5 3 1 1003 (by rfl) (by rfl) (by decide) (by decide)) ?_
     simp only [eput, hput, reduceCtorEq, ↓reduceIte, Nat.reduceAdd, Nat.reduceMul, Nat.reduceLT, Nat.reduceLeDiff, Nat.reduceEqDiff, Nat.reduceBEq, Int.reduceToNat]
     refine AWp.ret ?_
     cases hj_12; try dsimp only at hb_6
     refine lx hb_6 fun hx => ?_; cases hx; try dsimp only at h2_5
     cases h2_5; try dsimp only at h
     cases h; exact rtNew
    ·rw [hg_18]
     rw [hg_18, cond_false] at hj_12
     iterate 7 refine dd ?_
     rcases bt (decide ((m1.offers.length : Int) ≤ e1)) with hg_32 | hg_32
     ·rw [hg_32]
      rw [hg_32, cond_true] at hj_12
      iterate 22 refine dd ?_
      refine DOps.nil (by kernel_rfl) (k _ ?_)
      refine cdt ?_
      refine sg fun K k => ?_
      iterate 4 refine oo ?_
      refine AOps.nil (k _ ?_)
      refine AWp.sub (Sub.void 5 3 1 1003 (by rfl) (by rfl) (by decide) (by decide)) ?_
      simp only [eput, hput, reduceCtorEq, ↓reduceIte, Nat.reduceAdd, Nat.reduceMul, Nat.reduceLT, Nat.reduceLeDiff, Nat.reduceEqDiff, Nat.reduceBEq, Int.reduceToNat]
      refine AWp.ret ?_
      cases hj_12; try dsimp only at hb_6
      refine lx hb_6 fun hx => ?_; cases hx; try dsimp only at h2_5
      cases h2_5; try dsimp only at h
      cases h; exact rtNew
     ·rw [hg_32]
      rw [hg_32, cond_false] at hj_12
      iterate 3 refine dd ?_
      rcases bt (decide (0 < v1)) with hg_46 | hg_46
      ·rw [hg_46]
       rw [hg_46, cond_true] at hj_12
       obtain ⟨e4, ⟨f_47, f_48, f_49, f_50⟩, hj_12⟩ := idx_bind hj_12
       iterate 5 refine dd ?_
       refine dd ?_ (by intro K k; simp (disch := omega) only [go_sem, f_49, ↓reduceIte]; exact k)
       obtain ⟨e5, ⟨f_51, f_52, f_53, f_54⟩, hj_12⟩ := idx_bind hj_12
       iterate 6 refine dd ?_
       refine dd ?_ (by intro K k; simp (disch := omega) only [go_sem, f_53, ↓reduceIte]; exact k)
       obtain ⟨e6, ⟨f_55, f_56, f_57, f_58⟩, hj_12⟩ := idx_bind hj_12
       iterate 2 refine dd ?_
       refine dd ?_ (by intro K k; simp (disch := omega) only [go_sem, f_57, ↓reduceIte]; exact k)
       iterate 3 refine dd ?_
       refine DOps.nil (by kernel_rfl) (k _ ?_)
       refine cd hj_12 (fun hj_12 => ?_) (fun hj_12 => ?_)
       ·refine sg fun K k => ?_
        iterate 4 refine oo ?_
        refine AOps.nil (k _ ?_)
        refine AWp.sub (Sub.void 5 3 1 1003 (by rfl) (by rfl) (by decide) (by decide)) ?_
        simp only [eput, hput, reduceCtorEq, ↓reduceIte, Nat.reduceAdd, Nat.reduceMul, Nat.reduceLT, Nat.reduceLeDiff, Nat.reduceEqDiff, Nat.reduceBEq, Int.reduceToNat]
        refine AWp.ret ?_
        cases hj_12; try dsimp only at hb_6
        refine lx hb_6 fun hx => ?_; cases hx; try dsimp only at h2_5
        cases h2_5; try dsimp only at h
        cases h; exact rtNew
       ·refine AWp.skip ?_
        refine K_17 _ ?_
        refine sg fun K k => ?_
        obtain ⟨e7, ⟨f_60, f_61, f_62, f_63⟩, hj_12⟩ := idx_bind hj_12
        iterate 4 refine oo ?_
        refine oo ?_ (by intro K k; simp (disch := omega) only [go_sem, f_62, ↓reduceIte]; exact k)
        iterate 2 refine oo ?_
        refine AOps.nil (k _ ?_)
        refine jn (α := (List Int)) [1, 2, 4, 7, 9, 11, 12, 13, 21, 22, 23, 24, 25, 28, 29, 30, 31, 32, 33, 34, 35, 36, 37, 38, 39, 40, 41, 42, 43, 44, 45, 46, 47, 48] [1000, 1001, 1003] (fun i t => (5, .slc 1002 0 i.length) :: t) (fun i t => (1002, ⟨3, 1, dl (lenc (PD.int .i64) i)⟩) :: t) hj_12 ?_ ?_
        ·intro _ hj_65
         refine sg fun K k => ?_
         iterate 2 refine oo ?_
         refine AOps.nil (k _ ?_)
         refine cd hj_65 (fun hj_65 => ?_) (fun hj_65 => ?_)
         ·refine AWp.reg ?_
          iterate 3 refine oo ?_
          refine ol ?_
          obtain ⟨hg_67, hj_65⟩ := guardO_some hj_65
          iterate 2 refine oo ?_
          refine AOps.nil ?_
          cases hj_65; exact sb
         ·refine AWp.skip ?_
          cases hj_65; exact sb
        ·rintro L6 hj_12; dsimp only at hj_12 ⊢
         refine sg fun K k => ?_
         iterate 3 refine oo ?_
         refine ol ?_
         obtain ⟨hg_68, hj_12⟩ := guardO_some hj_12
         iterate 2 refine oo ?_
         refine AOps.nil (k _ ?_)
         refine sg fun K k => ?_
         iterate 4 refine oo ?_
         refine AOps.nil (k _ ?_)
         refine cd hj_12 (fun hj_12 => ?_) (fun hj_12 => ?_)
         ·refine AWp.draw mo [] trivial ?_
          iterate 5 refine dd ?_
          obtain ⟨r5, hx_70, hj_12⟩ := bind_some hj_12
          refine dcl (m_rate_ratio_ok e7.Num e7.Den _ hx_70) ?_
          obtain ⟨r6, hx_71, hj_12⟩ := bind_some hj_12
          refine dcl (m_rate_times_ok c2 r5 _ hx_71) ?_
          refine dd ?_
          refine DOps.nil (by kernel_rfl) ?_
          exact ln hj_12 sb
         ·refine AWp.skip ?_
          exact ln hj_12 sb
      ·rw [hg_46]
       rw [hg_46, cond_false] at hj_12
       iterate 19 refine dd ?_
       refine DOps.nil (by kernel_rfl) (k _ ?_)
       refine cdf ?_
       refine AWp.skip ?_
       refine K_17 _ ?_
       refine sg fun K k => ?_
       obtain ⟨e8, ⟨f_73, f_74, f_75, f_76⟩, hj_12⟩ := idx_bind hj_12
       iterate 4 refine oo ?_
       refine oo ?_ (by intro K k; simp (disch := omega) only [go_sem, f_75, ↓reduceIte]; exact k)
       iterate 2 refine oo ?_
       refine AOps.nil (k _ ?_)
       refine jn (α := (List Int)) [1, 2, 4, 7, 9, 11, 12, 13, 21, 22, 23, 24, 25, 28, 29, 30, 31, 32, 33, 34, 35, 36, 37, 38, 39, 40, 41, 42, 43, 44, 45, 46, 47, 48] [1000, 1001, 1003] (fun i t => (5, .slc 1002 0 i.length) :: t) (fun i t => (1002, ⟨3, 1, dl (lenc (PD.int .i64) i)⟩) :: t) hj_12 ?_ ?_
       ·intro _ hj_78
        refine sg fun K k => ?_
        iterate 2 refine oo ?_
        refine AOps.nil (k _ ?_)
        refine cd hj_78 (fun hj_78 => ?_) (fun hj_78 => ?_)
        ·refine AWp.reg ?_
         iterate 3 refine oo ?_
         refine ol ?_
         obtain ⟨hg_80, hj_78⟩ := guardO_some hj_78
         iterate 2 refine oo ?_
         refine AOps.nil ?_
         cases hj_78; exact sb
        ·refine AWp.skip ?_
         cases hj_78; exact sb
       ·rintro L7 hj_12; dsimp only at hj_12 ⊢
        refine sg fun K k => ?_
        iterate 3 refine oo ?_
        refine ol ?_
        obtain ⟨hg_81, hj_12⟩ := guardO_some hj_12
        iterate 2 refine oo ?_
        refine AOps.nil (k _ ?_)
        refine sg fun K k => ?_
        iterate 4 refine oo ?_
        refine AOps.nil (k _ ?_)
        refine cd hj_12 (fun hj_12 => ?_) (fun hj_12 => ?_)
        ·refine AWp.draw mo [] trivial ?_
         iterate 5 refine dd ?_
         obtain ⟨r7, hx_83, hj_12⟩ := bind_some hj_12
         refine dcl (m_rate_ratio_ok e8.Num e8.Den _ hx_83) ?_
         obtain ⟨r8, hx_84, hj_12⟩ := bind_some hj_12
         refine dcl (m_rate_times_ok c2 r7 _ hx_84) ?_
         refine dd ?_
         refine DOps.nil (by kernel_rfl) ?_
         exact ln hj_12 sb
        ·refine AWp.skip ?_
         exact ln hj_12 sb
   ·rintro ⟨c3, L3⟩ hb_6; dsimp only at hb_6 ⊢
    refine AWp.reg ?_
    iterate 2 refine oo ?_
    refine AOps.nil ?_
    exact ln hb_6 sb
  ·refine AWp.exit ?_
   refine lx hb_6 fun hx => ?_; cases hx; try dsimp only at h2_5
   exact ln h2_5 sb
 ·rintro ⟨c1, L1⟩ h; dsimp only at h ⊢
  refine sg fun K k => ?_
  iterate 5 refine oo ?_
  refine AOps.nil (k _ ?_)
  refine AWp.ret ?_
  cases h; exact rtNew
end Go.Pv.Tryd

namespace Go.Proofs
open Go.Shelf
def Tryd.lays189_ren : Go.Shelf.Ren := ⟨fun | 189 => 74 | 125 => 90 | 257 => 89 | 128 => 111 | 129 => 112 | 294 => 102 | 295 => 103 | 296 => 104 | 297 => 105 | 298 => 106 | 299 => 107 | 216 => 108 | 300 => 109 | 301 => 110 | 328 => 114 | 329 => 115 | 330 => 116 | 331 => 117 | 332 => 118 | 215 => 113 | 343 => 119 | n => n, fun | 28 => 27 | 3 => 3 | 46 => 118 | 0 => 0 | 51 => 140 | 53 => 100 | 4 => 4 | 183 => 133 | 182 => 132 | 131 => 111 | 5 => 5 | 9 => 9 | 218 => 142 | 222 => 146 | 228 => 148 | 229 => 149 | n => n, fun | n => n⟩
theorem Tryd.lays189 : Go.Proofs.Lays.n189 Tryd.prog Tryd.lays189_ren := {
  mixed := by kernel_rfl
  f125 := Tryd.func90.trans (congrArg some (by kernel_rfl))
  f128 := Tryd.func111.trans (congrArg some (by kernel_rfl))
  f129 := Tryd.func112.trans (congrArg some (by kernel_rfl))
  f189 := Tryd.func74.trans (congrArg some (by kernel_rfl))
  f215 := Tryd.func113.trans (congrArg some (by kernel_rfl))
  f216 := Tryd.func108.trans (congrArg some (by kernel_rfl))
  f257 := Tryd.func89.trans (congrArg some (by kernel_rfl))
  f294 := Tryd.func102.trans (congrArg some (by kernel_rfl))
  f295 := Tryd.func103.trans (congrArg some (by kernel_rfl))
  f296 := Tryd.func104.trans (congrArg some (by kernel_rfl))
  f297 := Tryd.func105.trans (congrArg some (by kernel_rfl))
  f298 := Tryd.func106.trans (congrArg some (by kernel_rfl))
  f299 := Tryd.func107.trans (congrArg some (by kernel_rfl))
  f300 := Tryd.func109.trans (congrArg some (by kernel_rfl))
  f301 := Tryd.func110.trans (congrArg some (by kernel_rfl))
  f328 := Tryd.func114.trans (congrArg some (by kernel_rfl))
  f329 := Tryd.func115.trans (congrArg some (by kernel_rfl))
  f330 := Tryd.func116.trans (congrArg some (by kernel_rfl))
  f331 := Tryd.func117.trans (congrArg some (by kernel_rfl))
  f332 := Tryd.func118.trans (congrArg some (by kernel_rfl))
  f343 := Tryd.func119.trans (congrArg some (by kernel_rfl))
  t0 := Tryd.underlying0
  a0 := Tryd.isAgg0
  z0 := Tryd.sizeOf0
  v0 := Tryd.zeroValue0
  t3 := Tryd.underlying3
  a3 := Tryd.isAgg3
  z3 := Tryd.sizeOf3
  v3 := Tryd.zeroValue3
  t4 := Tryd.underlying4
  a4 := Tryd.isAgg4
  z4 := Tryd.sizeOf4
  v4 := Tryd.zeroValue4
  t5 := Tryd.underlying5
  a5 := Tryd.isAgg5
  z5 := Tryd.sizeOf5
  v5 := Tryd.zeroValue5
  t9 := Tryd.underlying9
  a9 := Tryd.isAgg9
  z9 := Tryd.sizeOf9
  v9 := Tryd.zeroValue9
  t28 := Tryd.underlying27
  a28 := Tryd.isAgg27
  z28 := Tryd.sizeOf27
  v28 := Tryd.zeroValue27
  t46 := Tryd.underlying118
  a46 := Tryd.isAgg118
  z46 := Tryd.sizeOf118
  v46 := Tryd.zeroValue118
  t51 := Tryd.underlying140
  a51 := Tryd.isAgg140
  z51 := Tryd.sizeOf140
  v51 := Tryd.zeroValue140
  t53 := Tryd.underlying100
  a53 := Tryd.isAgg100
  z53 := Tryd.sizeOf100
  v53 := Tryd.zeroValue100
  t131 := Tryd.underlying111
  a131 := Tryd.isAgg111
  z131 := Tryd.sizeOf111
  v131 := Tryd.zeroValue111
  t182 := Tryd.underlying132
  a182 := Tryd.isAgg132
  z182 := Tryd.sizeOf132
  v182 := Tryd.zeroValue132
  t183 := Tryd.underlying133
  a183 := Tryd.isAgg133
  z183 := Tryd.sizeOf133
  v183 := Tryd.zeroValue133
  t218 := Tryd.underlying142
  a218 := Tryd.isAgg142
  z218 := Tryd.sizeOf142
  v218 := Tryd.zeroValue142
  t222 := Tryd.underlying146
  a222 := Tryd.isAgg146
  z222 := Tryd.sizeOf146
  v222 := Tryd.zeroValue146
  t228 := Tryd.underlying148
  a228 := Tryd.isAgg148
  z228 := Tryd.sizeOf148
  v228 := Tryd.zeroValue148
  t229 := Tryd.underlying149
  a229 := Tryd.isAgg149
  z229 := Tryd.sizeOf149
  v229 := Tryd.zeroValue149 }
open Go.Sort Go.RowKit in
theorem Tryd.slices_Sort_int (blk off cap : Nat) (zs : List Int) (w : World) (hH : Holds (Value.int .i64) w blk off zs.toArray) (hblk : blk < w.heap.size) (hsz : zs.length < 4611686018427387904) :
    Calls Tryd.prog 74 #[.slice (some ⟨blk, off, none⟩) zs.length cap] w fun e w' =>
      e = .returned (.tuple #[]) ∧ ∃ n os, w' = grow (putRow (Value.int .i64) (Sort.ahead w n) blk off (zs.mergeSort fun x y => decide (x ≤ y)).toArray) os := Any.slices_Sort_int Tryd.lays189 blk off cap zs w hH hblk hsz
def Tryd.laysNm220_ren : Go.Shelf.Ren := ⟨fun | 20 => 75 | n => n, fun | 22 => 27 | 3 => 3 | 4 => 4 | 0 => 0 | n => n, fun | n => n⟩
theorem Tryd.laysNm220 : Go.Proofs.Lays2.n20 Tryd.prog Tryd.laysNm220_ren := {
  mixed := by kernel_rfl
  f20 := Tryd.func75.trans (congrArg some (by kernel_rfl))
  t0 := Tryd.underlying0
  a0 := Tryd.isAgg0
  z0 := Tryd.sizeOf0
  v0 := Tryd.zeroValue0
  t3 := Tryd.underlying3
  a3 := Tryd.isAgg3
  z3 := Tryd.sizeOf3
  v3 := Tryd.zeroValue3
  t4 := Tryd.underlying4
  a4 := Tryd.isAgg4
  z4 := Tryd.sizeOf4
  v4 := Tryd.zeroValue4
  t22 := Tryd.underlying27
  a22 := Tryd.isAgg27
  z22 := Tryd.sizeOf27
  v22 := Tryd.zeroValue27
  i3 := by kernel_rfl }
open Go.RowKit Go.Lib Go.Sort in
theorem Tryd.slices_Compact_int (blk off cap : Nat) (zs : List Int) (w : World) (hH : Holds (Value.int .i64) w blk off zs.toArray) (hsz : zs.length ≤ 9223372036854775807) (hcap : zs.length ≤ cap) :
    Calls Tryd.prog 75 #[.slice (some ⟨blk, off, none⟩) zs.length cap] w fun e w' => e = .returned (.slice (some ⟨blk, off, none⟩) (Lib.compact zs).length cap) ∧ ∃ q, w' = putRow (Value.int .i64) (Sort.ahead w q) blk off (Lib.compact zs ++ List.replicate (zs.length - (Lib.compact zs).length) 0).toArray := Any.slices_Compact_int Tryd.laysNm220 blk off cap zs w hH hsz hcap
open Go.RowKit Go.Lib Go.Sort in
theorem Tryd.slices_Compact_int_empty (a : Option Addr) (cap : Nat) (w : World) :
    Calls Tryd.prog 75 #[.slice a 0 cap] w fun e w' => e = .returned (.slice a 0 cap) ∧ w' = w := Any.slices_Compact_int_empty Tryd.laysNm220 a cap w
theorem Tryd.slices_Sort_int_none (p : Option Addr) (cap : Nat) (w : World) :
    Calls Tryd.prog 74 #[.slice p 0 cap] w fun e w' => e = .returned (.tuple #[]) ∧ w' = w := Any.slices_Sort_int_none Tryd.lays189 p cap w
end Go.Proofs

namespace Go.Pv
open Go.Lib Go.Sort
theorem compactUpTo_le (d : Array Int) : ∀ m : Nat, (compactUpTo d m).length ≤ m
  | 0 => by simp [compactUpTo]
  | m + 1 => by
    rw [compactUpTo_succ, List.length_append]
    have := compactUpTo_le d m
    split <;> simp <;> omega
theorem compactI_le (l : List Int) : (compactI l).length ≤ l.length := by unfold compactI compact; exact compactUpTo_le _ _
theorem compactP_length (l : List Int) : (compactP l).length = l.length := by
  have := compactI_le l
  unfold compactP; simp; omega
theorem rep_i64 (w : World) (ok : Nat → Prop) (x : Int) : RepD w ok (.int .i64 x) (.int .i64 x) := .int .i64 x
theorem un_i64 (w : World) (X : Nat → Prop) (φ : Nm) (H : Heap) (v : Value) (x : Int) (h : RepV w X φ H v (.d (.int .i64 x))) : v = .int .i64 x := by cases h with | d h => cases h; rfl
namespace Tryd
open Go.Proofs
theorem one_arg {vs : List Value} {p : PV} (h : vs.length = [p].length) : ∃ v, vs = [v] := by
  match vs, h with
  | [v], _ => exact ⟨v, rfl⟩
theorem sort_hand (L : List Int) (hL : L.length ≤ 4294967296) : HandFn Tryd.prog G 74 [.slc 0 0 L.length] 0 3 1 (lenc (PD.int .i64) L) (.tuple []) (lenc (PD.int .i64) (sortI L)) := by
  intro B φ vs h0 h1 h2 h3
  obtain ⟨v, rfl⟩ := one_arg h1
  have hv : RepV B.w0 B.X φ [(0, ⟨3, 1, dl (lenc (PD.int .i64) L)⟩)] v (.slc 0 0 L.length) := h2 0 (by simp)
  have hlen : (lenc (PD.int .i64) (sortI L)).length = (lenc (PD.int .i64) L).length := by simp [lenc, sortI_length]
  generalize hn : L.length = n at hv
  cases hv with
  | slc hx hb h4 h5 h6 h7 =>
    rename_i cap b x
    obtain ⟨_, rfl⟩ := hget1 hx
    obtain ⟨hH, hlt⟩ := h3.holds (enc := Value.int .i64) (pd := PD.int .i64) un_i64 (fun _ => rfl) hb
    have hc := Tryd.slices_Sort_int b 0 cap L B.w0 hH hlt (by omega)
    rw [hn] at hc
    have e0 : (0 : Nat) * (⟨3, 1, dl (lenc (PD.int .i64) L)⟩ : Row).k = 0 := Nat.zero_mul _
    rw [e0]
    refine (callsIn_wide.2 hc).mono ?_
    rintro e w' ⟨rfl, m, os, rfl⟩
    refine ⟨_, .tuple [], [(0, ⟨3, 1, dl (lenc (PD.int .i64) (sortI L))⟩)], none, φ, rfl, ⟨rfl, rfl, hlen⟩, .tuple rfl (fun i hi => by simp at hi), ?_⟩
    have := h3.putRow (enc := Value.int .i64) (pd := PD.int .i64) (L' := sortI L) rep_i64 (fun _ => rfl) h0 (sortI_length L) hb m os
    unfold sortI at this ⊢
    exact this
  | slc0 hx hb hp =>
    rename_i x p
    have hL0 : L = [] := List.length_eq_zero_iff.1 hn
    subst hL0
    refine (callsIn_wide.2 (Tryd.slices_Sort_int_none p 0 B.w0)).mono ?_
    rintro e w' ⟨rfl, rfl⟩
    have e1 : sortI [] = [] := List.length_eq_zero_iff.1 (by rw [sortI_length]; rfl)
    refine ⟨_, .tuple [], [(0, ⟨3, 1, dl (lenc (PD.int .i64) (sortI []))⟩)], none, φ, rfl, ⟨rfl, rfl, hlen⟩, .tuple rfl (fun i hi => by simp at hi), ?_⟩
    rw [e1]; exact h3
theorem compact_hand (L : List Int) (hL : L.length ≤ 4294967296) : HandFn Tryd.prog G 75 [.slc 0 0 L.length] 0 3 1 (lenc (PD.int .i64) L) (.slc 0 0 (compactI L).length) (lenc (PD.int .i64) (compactP L)) := by
  intro B φ vs h0 h1 h2 h3
  obtain ⟨v, rfl⟩ := one_arg h1
  have hv : RepV B.w0 B.X φ [(0, ⟨3, 1, dl (lenc (PD.int .i64) L)⟩)] v (.slc 0 0 L.length) := h2 0 (by simp)
  have hlen : (lenc (PD.int .i64) (compactP L)).length = (lenc (PD.int .i64) L).length := by simp [lenc, compactP_length]
  have hle := compactI_le L
  generalize hn : L.length = n at hv
  cases hv with
  | slc hx hb h4 h5 h6 h7 =>
    rename_i cap b x
    obtain ⟨_, rfl⟩ := hget1 hx
    obtain ⟨hH, hlt⟩ := h3.holds (enc := Value.int .i64) (pd := PD.int .i64) un_i64 (fun _ => rfl) hb
    have hc := Tryd.slices_Compact_int b 0 cap L B.w0 hH (by omega) (by omega)
    rw [hn] at hc
    have e0 : (0 : Nat) * (⟨3, 1, dl (lenc (PD.int .i64) L)⟩ : Row).k = 0 := Nat.zero_mul _
    rw [e0]
    refine (callsIn_wide.2 hc).mono ?_
    rintro e w' ⟨rfl, m, rfl⟩
    have hs := h3.putRow (enc := Value.int .i64) (pd := PD.int .i64) (L' := compactP L) rep_i64 (fun _ => rfl) h0 (compactP_length L) hb m #[]
    have eg : ∀ w : World, grow w #[] = w := fun w => by simp [grow]
    rw [eg] at hs
    have hx' : hget ([(0, ⟨3, 1, dl (lenc (PD.int .i64) (compactP L))⟩)] : Heap) 0 = some ⟨3, 1, dl (lenc (PD.int .i64) (compactP L))⟩ := rfl
    have hll : (dl (lenc (PD.int .i64) (compactP L))).length = L.length := by simp [dl, lenc, compactP_length]
    have hll0 : (dl (lenc (PD.int .i64) L)).length = L.length := by simp [dl, lenc]
    dsimp only at h4 h6 h7
    rw [hll0] at h4 h6
    refine ⟨_, .slc 0 0 (compactI L).length, [(0, ⟨3, 1, dl (lenc (PD.int .i64) (compactP L))⟩)], none, φ, rfl, ⟨rfl, rfl, hlen⟩, ?_, ?_⟩
    · have hr : RepV (Sort.putRow (Value.int .i64) (Sort.ahead B.w0 m) b 0 (compactP L).toArray) B.X φ [(0, ⟨3, 1, dl (lenc (PD.int .i64) (compactP L))⟩)] (.slice (some ⟨b, 0 * (⟨3, 1, dl (lenc (PD.int .i64) (compactP L))⟩ : Row).k, none⟩) (compactI L).length cap) (.slc 0 0 (compactI L).length) :=
        .slc hx' hb (by dsimp only; rw [hll]; omega) (by omega) (by dsimp only; rw [hll]; omega) (fun c e f hh => by
          rw [heap_putRow, if_pos rfl] at hh
          obtain ⟨ob, ho1, ho2⟩ := Option.map_eq_some_iff.1 hh
          cases ob with
          | cells c0 e0 f0 =>
            simp only [onCells, Obj.cells.injEq] at ho2
            have := h7 c0 e0 f0 ho1
            rw [← ho2.1]
            simpa [putCells] using this
          | _ => simp [onCells] at ho2)
      rw [Nat.zero_mul] at hr
      unfold compactP compactI at hr ⊢
      rw [hn] at hr ⊢
      exact hr
    · unfold compactP compactI at hs ⊢
      rw [hn] at hs ⊢
      exact hs
  | slc0 hx hb hp =>
    rename_i x p
    have hL0 : L = [] := List.length_eq_zero_iff.1 hn
    subst hL0
    refine (callsIn_wide.2 (Tryd.slices_Compact_int_empty p 0 B.w0)).mono ?_
    rintro e w' ⟨rfl, rfl⟩
    have e1 : compactP [] = [] := List.length_eq_zero_iff.1 (by rw [compactP_length]; rfl)
    have e2 : (compactI []).length = 0 := by have := compactI_le []; simp at this; simp [this]
    refine ⟨_, .slc 0 0 (compactI []).length, [(0, ⟨3, 1, dl (lenc (PD.int .i64) (compactP []))⟩)], none, φ, rfl, ⟨rfl, rfl, hlen⟩, ?_, ?_⟩
    · rw [e1, e2]; exact .slc0 hx hb hp
    · rw [e1]; exact h3
end Tryd
end Go.Pv

namespace Go.Pv.Tryd
open Go.Proofs Go.Pv
theorem m_rate_Gains_ok (n1 : Int) (offers1 : (List Offer)) (list1 : (List Int)) (r : (Bool × Int)) (h : m_rate_Gains n1 offers1 list1 = some r) : PureFn Tryd.prog G 44 [.d (.int .i64 n1), .d (.imm 4 (lenc Offer.pd offers1)), .d (.imm 1 (lenc (PD.int .i64) list1))] (.tuple [.d (.bool r.1), .d (.int .i64 r.2)]) := by
 unfold m_rate_Gains at h
 refine pf Tryd.func44 Tryd.ntmps44 ?_
 refine sg fun K k => ?_
 iterate 2 refine oo ?_
 refine AOps.nil (k _ ?_)
 refine sg fun K k => ?_
 iterate 2 refine oo ?_
 obtain ⟨r1, hx_1, h⟩ := bind_some h
 refine cl (m_rate_of_ok n1 offers1 _ hx_1) ?_
 iterate 6 refine oo ?_
 refine AOps.nil (k _ ?_)
 refine AWp.seq fun _ K_2 => ?_
 refine sg fun K k => ?_
 iterate 2 refine oo ?_
 refine AOps.nil (k _ ?_)
 refine cd h (fun h => ?_) (fun h => ?_)
 ·refine sg fun K k => ?_
  iterate 3 refine oo ?_
  refine AOps.nil (k _ ?_)
  refine AWp.ret ?_
  cases h; exact rt
 ·refine AWp.skip ?_
  refine K_2 _ ?_
  refine AWp.seq fun _ K_4 => ?_
  refine sg fun K k => ?_
  iterate 4 refine oo ?_
  refine ct 5 [2, 8] [1000] (fun  t => (30, .d (.bool ((decide ((list1.length : Int) = 0)) || (decide (n1 < (list1.length : Int)))))) :: t) ?_ ?_
  ·rcases bt (decide ((list1.length : Int) = 0)) with hg_6 | hg_6
   ·rw [hg_6]
    iterate 5 refine oo ?_
    refine AOps.nil ?_
    exact sb
   ·rw [hg_6]
    iterate 5 refine oo ?_
    refine AOps.nil ?_
    exact sb
  refine AOps.nil (k _ ?_)
  refine cd h (fun h => ?_) (fun h => ?_)
  ·refine sg fun K k => ?_
   iterate 2 refine oo ?_
   refine AOps.nil (k _ ?_)
   refine AWp.ret ?_
   cases h; exact rt
  ·refine AWp.skip ?_
   refine K_4 _ ?_
   refine sg fun K k => ?_
   iterate 2 refine oo ?_
   obtain ⟨r2, hx_8, h⟩ := bind_some h
   refine clN 1001 (m_rate_market_follow_ok r1.1 list1 _ hx_8) ?_
   iterate 8 refine oo ?_
   refine AOps.nil (k _ ?_)
   refine AWp.seq fun _ K_9 => ?_
   refine sd mo fun K k => ?_
   iterate 3 refine dd ?_
   rcases bt (!r2.2.2) with hg_10 | hg_10
   ·rw [hg_10]
    rw [hg_10, cond_true] at h
    iterate 11 refine dd ?_
    refine DOps.nil (by kernel_rfl) (k _ ?_)
    refine cdt ?_
    refine sg fun K k => ?_
    iterate 2 refine oo ?_
    refine AOps.nil (k _ ?_)
    refine AWp.ret ?_
    cases h; exact rt
   ·rw [hg_10]
    rw [hg_10, cond_false] at h
    obtain ⟨e1, ⟨f_17, f_18, f_19, f_20⟩, h⟩ := idx_bind h
    try simp only [Int.reduceToNat] at f_19 f_20
    iterate 2 refine dd ?_
    refine dd ?_ (by intro K k; simp (disch := omega) only [go_sem, f_19, ↓reduceIte]; exact k)
    obtain ⟨e2, ⟨f_21, f_22, f_23, f_24⟩, h⟩ := idx_bind h
    try simp only [Int.toNat_natCast] at f_23 f_24
    iterate 5 refine dd ?_
    refine dd ?_ (by intro K k; simp (disch := omega) only [go_sem, f_23, ↓reduceIte]; exact k)
    iterate 2 refine dd ?_
    refine DOps.nil (by kernel_rfl) (k _ ?_)
    refine cd h (fun h => ?_) (fun h => ?_)
    ·refine sg fun K k => ?_
     iterate 2 refine oo ?_
     refine AOps.nil (k _ ?_)
     refine AWp.ret ?_
     cases h; exact rt
    ·refine AWp.skip ?_
     refine K_9 _ ?_
     refine sg fun K k => ?_
     obtain ⟨hg_26, h⟩ := guardO_some h
     refine oo ?_
     refine clH 1001 (sort_hand r2.2.1 hg_26) ?_
     refine AOps.nil (k _ ?_)
     refine sg fun K k => ?_
     obtain ⟨hg_27, h⟩ := guardO_some h
     refine oo ?_
     refine clH 1001 (compact_hand (sortI r2.2.1) hg_27) ?_
     iterate 5 refine oo ?_
     obtain ⟨b2, hc_28, h⟩ := bind_some h
     refine ct 4 [] [] (fun  t => (64, .d (.bool b2)) :: t) ?_ ?_
     ·rcases bt (decide (((compactI (sortI r2.2.1)).length : Int) = (list1.length : Int))) with hg_30 | hg_30
      ·rw [hg_30]
       rw [hg_30, cond_true] at hc_28
       iterate 2 refine oo ?_
       obtain ⟨r4, hx_29, hc_28⟩ := bind_some hc_28
       refine cl (m_rate_above_ok r2.1 (⟨1, 1⟩ : Ratio) _ hx_29) ?_
       refine oo ?_
       refine AOps.nil ?_
       cases hc_28
       exact sb
      ·rw [hg_30]
       rw [hg_30, cond_false] at hc_28
       iterate 4 refine oo ?_
       refine AOps.nil ?_
       cases hc_28
       exact sb
     iterate 2 refine oo ?_
     refine AOps.nil (k _ ?_)
     refine AWp.ret ?_
     cases h; exact rt
end Go.Pv.Tryd

namespace Go.Pv.Tryd
open Go.Proofs Go.Pv
theorem m_cocketref01_Compare_ok (a1 : Big) (b1 : Big) (r : Int) (h : m_cocketref01_Compare a1 b1 = some r) : PureFn Tryd.prog G 70 [.d (.agg [(.bool a1.Neg), (.imm 1 (lenc (PD.int .i64) a1.D))]), .d (.agg [(.bool b1.Neg), (.imm 1 (lenc (PD.int .i64) b1.D))])] (.d (.int .i64 r)) := by
 unfold m_cocketref01_Compare at h
 refine pf Tryd.func70 Tryd.ntmps70 ?_
 refine sg fun K k => ?_
 iterate 3 refine oo ?_
 refine AOps.nil (k _ ?_)
 refine AWp.seq fun _ K_1 => ?_
 refine sg fun K k => ?_
 iterate 5 refine oo ?_
 refine AOps.nil (k _ ?_)
 refine cd h (fun h => ?_) (fun h => ?_)
 ·refine AWp.seq fun _ K_3 => ?_
  refine sg fun K k => ?_
  iterate 2 refine oo ?_
  refine AOps.nil (k _ ?_)
  refine cd h (fun h => ?_) (fun h => ?_)
  ·refine sg fun K k => ?_
   refine oo ?_
   refine AOps.nil (k _ ?_)
   refine AWp.ret ?_
   cases h; exact rt
  ·refine AWp.skip ?_
   refine K_3 _ ?_
   refine sg fun K k => ?_
   refine oo ?_
   refine AOps.nil (k _ ?_)
   refine AWp.ret ?_
   cases h; exact rt
 ·refine AWp.skip ?_
  refine K_1 _ ?_
  refine sg fun K k => ?_
  iterate 4 refine oo ?_
  obtain ⟨r1, hx_5, h⟩ := bind_some h
  refine cl (m_cocketref01_cmpD_ok a1.D b1.D _ hx_5) ?_
  refine oo ?_
  refine AOps.nil (k _ ?_)
  refine AWp.seq fun _ K_6 => ?_
  refine sg fun K k => ?_
  iterate 2 refine oo ?_
  refine AOps.nil (k _ ?_)
  refine cd h (fun h => ?_) (fun h => ?_)
  ·refine sg fun K k => ?_
   iterate 3 refine oo ?_
   refine AOps.nil (k _ ?_)
   refine AWp.ret ?_
   cases h; exact rt
  ·refine AWp.skip ?_
   refine K_6 _ ?_
   refine sg fun K k => ?_
   iterate 2 refine oo ?_
   refine AOps.nil (k _ ?_)
   refine AWp.ret ?_
   cases h; exact rt
end Go.Pv.Tryd

namespace Go.Pv.Tryd
open Go.Proofs Go.Pv
theorem m_cocketref01_Cmp_ok (a1 : Q) (b1 : Q) (r : Int) (h : m_cocketref01_Cmp a1 b1 = some r) : PureFn Tryd.prog G 38 [.d (.agg [(.bool a1.N.Neg), (.imm 1 (lenc (PD.int .i64) a1.N.D)), (.bool a1.D.Neg), (.imm 1 (lenc (PD.int .i64) a1.D.D))]), .d (.agg [(.bool b1.N.Neg), (.imm 1 (lenc (PD.int .i64) b1.N.D)), (.bool b1.D.Neg), (.imm 1 (lenc (PD.int .i64) b1.D.D))])] (.d (.int .i64 r)) := by
 unfold m_cocketref01_Cmp at h
 refine pf Tryd.func38 Tryd.ntmps38 ?_
 refine sg fun K k => ?_
 iterate 3 refine oo ?_
 refine AOps.nil (k _ ?_)
 refine sd mo fun K k => ?_
 iterate 4 refine dd ?_
 obtain ⟨r1, hx_1, h⟩ := bind_some h
 refine dcl (m_cocketref01_Times_ok a1.N b1.D _ hx_1) ?_
 iterate 4 refine dd ?_
 obtain ⟨r2, hx_2, h⟩ := bind_some h
 refine dcl (m_cocketref01_Times_ok b1.N a1.D _ hx_2) ?_
 obtain ⟨r3, hx_3, h⟩ := bind_some h
 refine dcl (m_cocketref01_Compare_ok r1 r2 _ hx_3) ?_
 refine dd ?_
 refine DOps.nil (by kernel_rfl) (k _ ?_)
 refine AWp.ret ?_
 cases h; exact rt
end Go.Pv.Tryd

namespace Go.Pv.Tryd
open Go.Proofs Go.Pv
theorem m_cocketlaw01_RateTurned_ok (n1 : Int) (l1 : (List Offer)) (r : Bool) (h : m_cocketlaw01_RateTurned n1 l1 = some r) : PureFn Tryd.prog G 13 [.d (.int .i64 n1), .d (.imm 4 (lenc Offer.pd l1))] (.d (.bool r)) := by
 unfold m_cocketlaw01_RateTurned at h
 refine pf Tryd.func13 Tryd.ntmps13 ?_
 refine sg fun K k => ?_
 refine oo ?_
 refine AOps.nil (k _ ?_)
 refine AWp.seq fun _ K_1 => ?_
 refine sg fun K k => ?_
 refine oo ?_
 obtain ⟨r1, hx_2, h⟩ := bind_some h
 refine cl (m_cocketlaw01_few_ok l1 _ hx_2) ?_
 refine oo ?_
 refine AOps.nil (k _ ?_)
 refine cd h (fun h => ?_) (fun h => ?_)
 ·refine sg fun K k => ?_
  obtain ⟨r2, hx_4, h⟩ := bind_some h
  refine cl (m_cocketlaw01_alive_ok _ hx_4) ?_
  refine oo ?_
  refine AOps.nil (k _ ?_)
  refine AWp.ret ?_
  cases h; exact rt
 ·refine AWp.skip ?_
  refine K_1 _ ?_
  refine sg fun K k => ?_
  iterate 2 refine oo ?_
  obtain ⟨r3, hx_5, h⟩ := bind_some h
  refine cl (m_rate_Round_ok n1 l1 _ hx_5) ?_
  iterate 5 refine oo ?_
  refine AOps.nil (k _ ?_)
  refine AWp.seq fun _ K_6 => ?_
  refine sg fun K k => ?_
  iterate 2 refine oo ?_
  refine AOps.nil (k _ ?_)
  refine cd h (fun h => ?_) (fun h => ?_)
  ·refine sg fun K k => ?_
   iterate 4 refine oo ?_
   obtain ⟨b1, hc_8, h⟩ := bind_some h
   refine ct 2 [4] [] (fun  t => (29, .d (.bool b1)) :: t) ?_ ?_
   ·rcases bt (decide ((r3.1.length : Int) = 0)) with hg_10 | hg_10
    ·rw [hg_10]
     rw [hg_10, cond_true] at hc_8
     obtain ⟨r4, hx_9, hc_8⟩ := bind_some hc_8
     refine cl (m_cocketlaw01_alive_ok _ hx_9) ?_
     refine oo ?_
     refine AOps.nil ?_
     cases hc_8
     exact sb
    ·rw [hg_10]
     rw [hg_10, cond_false] at hc_8
     iterate 2 refine oo ?_
     refine AOps.nil ?_
     cases hc_8
     exact sb
   refine oo ?_
   refine AOps.nil (k _ ?_)
   refine AWp.ret ?_
   cases h; exact rt
  ·refine AWp.skip ?_
   refine K_6 _ ?_
   refine AWp.seq fun _ K_11 => ?_
   refine sg fun K k => ?_
   iterate 2 refine oo ?_
   obtain ⟨r5, hx_12, h⟩ := bind_some h
   refine cl (m_cocketref01_Walk_ok l1 r3.1 _ hx_12) ?_
   refine oo ?_
   refine AOps.nil (k _ ?_)
   refine cd h (fun h => ?_) (fun h => ?_)
   ·refine sg fun K k => ?_
    refine oo ?_
    refine AOps.nil (k _ ?_)
    refine AWp.ret ?_
    cases h; exact rt
   ·refine AWp.skip ?_
    refine K_11 _ ?_
    refine sg fun K k => ?_
    refine oo ?_
    refine AOps.nil (k _ ?_)
    refine AWp.sub (Sub.void 7 3 1 1000 (by rfl) (by rfl) (by decide) (by decide)) ?_
    simp only [eput, hput, reduceCtorEq, ↓reduceIte, Nat.reduceAdd, Nat.reduceMul, Nat.reduceLT, Nat.reduceLeDiff, Nat.reduceEqDiff, Nat.reduceBEq, Int.reduceToNat]
    refine sg fun K k => ?_
    obtain ⟨r6, hx_14, h⟩ := bind_some h
    refine cl (m_cocketref01_Frac_ok 1 1 _ hx_14) ?_
    iterate 2 refine oo ?_
    refine AOps.nil (k _ ?_)
    refine jn (α := ((List Int) × Q)) [0, 1] [] (fun i t => (7, .slc 1000 0 i.1.length) :: (8, .ptr 1001 0 0) :: t) (fun i t => (1000, ⟨3, 1, dl (lenc (PD.int .i64) i.1)⟩) :: (1001, ⟨59, 4, [.d (.agg [(.bool i.2.N.Neg), (.imm 1 (lenc (PD.int .i64) i.2.N.D)), (.bool i.2.D.Neg), (.imm 1 (lenc (PD.int .i64) i.2.D.D))])]⟩) :: t) h ?_ ?_
    ·intro _ hj_16
     refine sg fun K k => ?_
     iterate 4 refine oo ?_
     refine AOps.nil (k _ ?_)
     refine AWp.block ?_
     obtain ⟨x_21, hl_18, h2_19⟩ := bind_some hj_16
     refine lp (S := (Int × (List Int) × Q)) [0, 1, 5] [] (fun i t => (7, .slc 1000 0 i.2.1.length) :: (8, .ptr 1001 0 0) :: (9, .d (.int .i64 i.1)) :: t) (fun i t => (1000, ⟨3, 1, dl (lenc (PD.int .i64) i.2.1)⟩) :: (1001, ⟨59, 4, [.d (.agg [(.bool i.2.2.N.Neg), (.imm 1 (lenc (PD.int .i64) i.2.2.N.D)), (.bool i.2.2.D.Neg), (.imm 1 (lenc (PD.int .i64) i.2.2.D.D))])]⟩) :: t) hl_18 ?_ ?_; exact sb; clear hl_18
     rintro ⟨i1, L2, c2⟩ _ hb_20; unfold m_cocketlaw01_RateTurned_l1 at hb_20; try dsimp only at hb_20
     try dsimp only
     refine AWp.seq fun _ K_23 => ?_
     refine sg fun K k => ?_
     iterate 2 refine oo ?_
     refine AOps.nil (k _ ?_)
     refine cd hb_20 (fun hb_20 => ?_) (fun hb_20 => ?_)
     ·refine AWp.skip ?_
      refine K_23 _ ?_
      refine AWp.seq fun _ K_25 => ?_
      refine AWp.block ?_
      refine sg fun K k => ?_
      obtain ⟨e1, ⟨f_26, f_27, f_28, f_29⟩, hb_20⟩ := idx_bind hb_20
      iterate 4 refine oo ?_
      refine oo ?_ (by intro K k; simp (disch := omega) only [go_sem, f_28, ↓reduceIte]; exact k)
      refine ol ?_
      obtain ⟨hg_30, hb_20⟩ := guardO_some hb_20
      iterate 2 refine oo ?_
      refine AOps.nil (k _ ?_)
      refine AWp.draw mo [] trivial ?_
      obtain ⟨e2, ⟨f_31, f_32, f_33, f_34⟩, hb_20⟩ := idx_bind hb_20
      iterate 5 refine dd ?_
      refine dd ?_ (by intro K k; simp (disch := omega) only [go_sem, f_33, ↓reduceIte]; exact k)
      obtain ⟨e3, ⟨f_35, f_36, f_37, f_38⟩, hb_20⟩ := idx_bind hb_20
      iterate 2 refine dd ?_
      refine dd ?_ (by intro K k; simp (disch := omega) only [go_sem, f_37, ↓reduceIte]; exact k)
      iterate 4 refine dd ?_
      refine dd ?_ (by intro K k; simp (disch := omega) only [go_sem, f_33, ↓reduceIte]; exact k)
      iterate 2 refine dd ?_
      refine dd ?_ (by intro K k; simp (disch := omega) only [go_sem, f_37, ↓reduceIte]; exact k)
      obtain ⟨r7, hx_39, hb_20⟩ := bind_some hb_20
      refine dcl (m_cocketref01_Frac_ok e3.Den e3.Num _ hx_39) ?_
      obtain ⟨r8, hx_40, hb_20⟩ := bind_some hb_20
      refine dcl (m_cocketref01_Mul_ok c2 r7 _ hx_40) ?_
      refine dd ?_
      refine DOps.nil (by kernel_rfl) ?_
      refine K_25 _ ?_
      refine AWp.reg ?_
      iterate 3 refine oo ?_
      refine AOps.nil ?_
      exact ln hb_20 sb
     ·refine AWp.exit ?_
      refine lx hb_20 fun hx => ?_; cases hx; try dsimp only at h2_19
      cases h2_19; exact sb
    ·rintro ⟨L1, c1⟩ h; dsimp only at h ⊢
     refine sg fun K k => ?_
     iterate 2 refine oo ?_
     obtain ⟨r9, hx_41, h⟩ := bind_some h
     refine cl (m_cocketlaw01_turned_ok l1 _ hx_41) ?_
     refine oo ?_
     refine AOps.sub (τ := ⟨[(1, .d (.imm 4 (lenc Offer.pd l1))), (7, .d (.imm 1 (lenc (PD.int .i64) L1))), (8, .ptr 1001 0 0), (69, .d (.int .i64 n1)), (71, .d (.imm 4 (lenc Offer.pd r9))), (72, .d (.imm 1 (lenc (PD.int .i64) L1)))], [(1001, ⟨59, 4, [.d (.agg [(.bool c1.N.Neg), (.imm 1 (lenc (PD.int .i64) c1.N.D)), (.bool c1.D.Neg), (.imm 1 (lenc (PD.int .i64) c1.D.D))])]⟩)], [], none⟩) sc ?_
     obtain ⟨r10, hx_42, h⟩ := bind_some h
     refine cl (m_rate_Gains_ok n1 r9 L1 _ hx_42) ?_
     iterate 5 refine oo ?_
     refine AOps.nil (k _ ?_)
     refine sd mo fun K k => ?_
     iterate 3 refine dd ?_
     rcases bt (decide (r10.2 = 0)) with hg_43 | hg_43
     ·rw [hg_43]
      rw [hg_43, cond_true] at h
      iterate 4 refine dd ?_
      rcases bt (!r10.1) with hg_44 | hg_44
      ·rw [hg_44]
       rw [hg_44, cond_true] at h
       refine dd ?_
       obtain ⟨r11, hx_45, h⟩ := bind_some h
       refine dcl (m_cocketlaw01_turned_ok l1 _ hx_45) ?_
       refine dd ?_
       obtain ⟨r12, hx_46, h⟩ := bind_some h
       refine dcl (m_cocketref01_Walk_ok r11 L1 _ hx_46) ?_
       iterate 2 refine dd ?_
       rcases bt r12 with hg_47 | hg_47
       ·rw [hg_47]
        rw [hg_47, cond_true] at h
        refine dd ?_
        obtain ⟨r13, hx_48, h⟩ := bind_some h
        refine dcl (m_cocketref01_Frac_ok 1 1 _ hx_48) ?_
        obtain ⟨r14, hx_49, h⟩ := bind_some h
        refine dcl (m_cocketref01_Cmp_ok c1 r13 _ hx_49) ?_
        iterate 3 refine dd ?_
        rcases bt (decide (r14 < 0)) with hg_50 | hg_50
        ·rw [hg_50]
         rw [hg_50, cond_true] at h
         obtain ⟨r15, hx_51, h⟩ := bind_some h
         refine dcl (m_cocketlaw01_alive_ok _ hx_51) ?_
         iterate 2 refine dd ?_
         refine DOps.nil (by kernel_rfl) (k _ ?_)
         refine AWp.ret ?_
         cases h; exact rt
        ·rw [hg_50]
         rw [hg_50, cond_false] at h
         iterate 3 refine dd ?_
         refine DOps.nil (by kernel_rfl) (k _ ?_)
         refine AWp.ret ?_
         cases h; exact rt
       ·rw [hg_47]
        rw [hg_47, cond_false] at h
        iterate 9 refine dd ?_
        refine DOps.nil (by kernel_rfl) (k _ ?_)
        refine AWp.ret ?_
        cases h; exact rt
      ·rw [hg_44]
       rw [hg_44, cond_false] at h
       iterate 15 refine dd ?_
       refine DOps.nil (by kernel_rfl) (k _ ?_)
       refine AWp.ret ?_
       cases h; exact rt
     ·rw [hg_43]
      rw [hg_43, cond_false] at h
      iterate 19 refine dd ?_
      refine DOps.nil (by kernel_rfl) (k _ ?_)
      refine AWp.ret ?_
      cases h; exact rt
end Go.Pv.Tryd

namespace Go.Pv.Tryd
open Go Go.Proofs Go.Pv Go.ChangeShapes Go.WideShapes Go.ChangeAt Go.RowKit Go.Proofs.YtmnemlihimnofaaDoor
set_option maxRecDepth 100000 in
theorem turned_lifted (os : Os) (started : os.Started) (H : Type) (enc : TypeId × Value → H) :
    ReturnsInHanded {} Tryd.checked os 13 .any (fun w args => (Rows.rateTurnedSpec.pre enc Tryd.prog Tryd.f13 [] false w args ∧ laidMetH Tryd.prog laid1 w) ∧ sizedMet enc Tryd.prog Tryd.f13 (OpenSpec.ofChange Rows.rateTurnedSpec) false w args)
      (Rows.rateTurnedSpec.post enc Tryd.prog Tryd.f13 false true false false) := by
  refine returnsInHanded_of_change_and (C := Tryd.checked) (X := fun w _ => laidMetH Tryd.prog laid1 w) (fun _ _ _ hh h => h.of_heap hh) own started (by kernel_rfl) Tryd.func13
    (ChangeSpec.witness_shaped (enc := enc) (C := Tryd.checked) (os := os) (X := fun w _ => laidMetH Tryd.prog laid1 w) false (World.doorLaid Tryd.prog 400 os) #[.int .i64 0, .slice none 0 0] 8 rfl (World.shaped_of_RefB (by kernel_rfl) (by kernel_rfl)) (by kernel_rfl) (by kernel_rfl) (by kernel_rfl) (door_met os _)) ?_
  intro W base args ds gs before hval0 hW _ _ hL _
  have hval : ∀ (j : Nat) t v, Tryd.f13.params[j]? = some t → args[j]? = some v → Value.okWide Tryd.prog W .any base t v := hval0
  have hW' := hW
  obtain ⟨p, q, hA0, hV, rfl, hfz, hnd⟩ := hW
  have hA : DataW.TrodAll enc Tryd.prog W 0 (fun _ => true) true Tryd.f13.params.toList args.toList ds p := hA0
  obtain ⟨rfl, rfl⟩ := trodVars_none hV
  rw [Tryd.params13] at hA hval
  obtain ⟨v0, vs0, d0, ds0, p0, q0, ha, rfl, rfl, t0, hA⟩ := trodAll_cons hA
  obtain ⟨v1, vs1, d1, ds1, p1, q1, rfl, rfl, rfl, t1, hA⟩ := trodAll_cons hA
  obtain ⟨rfl, rfl, rfl⟩ := trodAll_nil hA
  have hargs : args = #[v0, v1] := Array.toList_inj.1 ha
  subst hargs
  obtain ⟨x0, r0⟩ := rep_arg_int Tryd.underlying3 (hval 0 3 v0 rfl rfl)
  obtain ⟨x1, r1⟩ := rep_arg_slice Tryd.underlying22 opens_Offer (by decide) (hval 1 22 v1 rfl rfl) t1
  have hw := calls_of_pure (args := [.int .i64 x0, .imm 4 (lenc Offer.pd x1)]) (vs := [v0, v1]) (m_cocketlaw01_RateTurned_ok x0 x1 true (RateTurned_law x0 x1)) rfl (fun i hi => by
    match i, hi with
    | 0, _ => exact r0
    | 1, _ => exact r1) (glob_of_laid hL)
  refine hw.mono fun e W' ⟨he, hs⟩ => ?_
  subst he
  exact ⟨_, rfl, law_post rfl hW' hs rfl (t := 4) (by rfl) Tryd.underlying4 laidOut (by kernel_rfl)⟩
theorem turned_said : Rows.RateTurnedSaid :=
  OpenClaim.holds_of_wide 13 Tryd.f13 rfl rfl rfl rfl rfl rfl rfl ⟨rfl, rfl, rfl, rfl, rfl⟩ rfl rfl rfl rfl rfl (by kernel_rfl) Tryd.func13 (by kernel_rfl)
    (of_decide_eq_true (by kernel_rfl)) (by unfold Func.isWrapper; first | (rw [if_pos (by decide +kernel)]; kernel_rfl) | (rw [if_neg (by decide +kernel)]; exact ⟨rfl, rfl⟩))
    (fun os started H enc _ => turned_lifted os started H enc)
theorem turned_card : Rows.RateTurnedCardSaid :=
  Claim7.holds_tied_plain_at .later [] [.data] true Rows.rateTurnedCard.stood.harness false
    turned_said (fun _ h => by cases h) (by kernel_rfl) (fun _ h => by cases h) rateTurned_row_tie rfl ⟨rfl, rfl⟩ (by kernel_rfl) rfl
    (fun f fn hf hfn => by
      obtain rfl : f = 13 := Option.some.inj ((show Tryd.prog.funcNamed Rows.rateTurnedRow.func = some 13 by kernel_rfl).symm.trans hf) |>.symm
      obtain rfl : fn = Tryd.f13 := (Option.some.inj (Tryd.func13.symm.trans hfn)).symm
      exact ⟨by kernel_rfl, fun j t ht => by
        rw [Tryd.params13] at ht
        have hm : t ∈ [3, 22] := by simpa using Array.mem_of_getElem? ht
        have hall : ([3, 22].all fun u => !Tryd.prog.wantsStandIn u) = true := by kernel_rfl
        exact (show Tryd.prog.wantsStandIn t = false by simpa using List.all_eq_true.1 hall t hm)⟩)
    (by kernel_rfl)
end Go.Pv.Tryd

namespace Go.Proofs.YtmnemlihimnofaaDoor

theorem turned_card : Rows.RateTurnedCardSaid := Go.Pv.Tryd.turned_card

#print axioms turned_card

end Go.Proofs.YtmnemlihimnofaaDoor
