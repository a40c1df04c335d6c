/- RateBests answers true for every input, as its tied card says: under the conditions of the card (Rows, Cards, Tie), no more. Part 5 of 6: by one AI agent and its programs; no person has read it. -/
import Derived.Test.YtmnemlihimnofaaDoorRateBestsA
import Derived.Test.YtmnemlihimnofaaDoorRateBestsB
import Derived.Test.YtmnemlihimnofaaDoorRateBestsC
import Derived.Test.YtmnemlihimnofaaDoorRateBestsD
set_option linter.unusedSimpArgs false
set_option linter.unusedVariables false
set_option linter.all false

set_option linter.unusedSimpArgs false
set_option linter.unusedVariables false
namespace Go.Pv
theorem zipIdx_idx {l : List Offer} {o : Offer} {i : Nat} : (o, i) ∈ l.zipIdx ↔ idx l (i : Int) = some o := by
  rw [List.mem_zipIdx_iff_getElem?, idx_nat]
theorem walkOn_sound {n : Int} {l : List Offer} (ho : ∀ o ∈ l, offerOk n o = true) (frm length : Int) (rounds : Bool) : ∀ (k : Nat) (w : Walk) (s : List Bool), RatOk w.rate (50 ^ w.list.length) →
    ∀ x ∈ walkOn l frm length rounds k w s, ∃ p, x.list = w.list ++ p ∧ Path l w.to p x.to ∧ RatOk x.rate (50 ^ x.list.length) ∧ toRat x.rate = toRat w.rate * rtp l p ∧ (x.list.length : Int) = length ∧ (decide (x.to = frm) == rounds) = true
  | 0, w, s, _, x, hx => by simp [walkOn] at hx
  | k + 1, w, s, hr, x, hx => by
    rw [walkOn] at hx
    by_cases he : (w.list.length : Int) = length
    · rw [if_pos he] at hx
      split at hx
      · simp at hx
      · rename_i hc
        rw [List.mem_singleton] at hx; subst hx
        exact ⟨[], by simp, rfl, hr, by rw [rtp, Rat.mul_one], he, by simpa using hc⟩
    · rw [if_neg he, List.mem_flatMap] at hx
      obtain ⟨⟨o, i⟩, hm, hx⟩ := hx
      split at hx
      · simp at hx
      rename_i hsk
      have hi := zipIdx_idx.1 hm
      have hro := rateO_ok (ho o (idx_mem hi))
      have hnew := mulN_ok hr hro
      have et : timesN w.rate (ratioN o.Num o.Den) = mulN w.rate (rateO o) := timesN_eq hr hro
      rw [et] at hx
      obtain ⟨p, p1, p2, p3, p4, p5⟩ := walkOn_sound ho frm length rounds k _ _ (by
        simp only [List.length_append, List.length_cons, List.length_nil, Int.pow_succ, Nat.zero_add]
        exact hnew) x hx
      have hfrom : o.From = w.to := by
        simp only [walkSkip, Bool.not_eq_true, Bool.or_eq_false_iff, decide_eq_false_iff_not, Decidable.not_not] at hsk
        exact hsk.1
      refine ⟨(i : Int) :: p, by rw [p1]; simp, ⟨o, hi, hfrom, p2⟩, p3, ?_, p5⟩
      rw [p4, toRat_mulN hr.n1 hr.d1 hro.n1 hro.d1, rtp, rtI, hi, Rat.mul_assoc]
theorem walkOn_order (l : List Offer) (frm length : Int) (rounds : Bool) : ∀ (k : Nat) (w : Walk) (s : List Bool),
    (walkOn l frm length rounds k w s).Pairwise fun x y => cmpL x.list y.list ≤ 0
  | 0, w, s => by simp [walkOn]
  | k + 1, w, s => by
    rw [walkOn]
    by_cases he : (w.list.length : Int) = length
    · rw [if_pos he]
      split <;> simp
    · rw [if_neg he, List.pairwise_flatMap]
      refine ⟨fun oi _ => ?_, ?_⟩
      · split
        · simp
        · exact walkOn_order l frm length rounds k _ _
      · have hp : l.zipIdx.Pairwise fun a b => a.2 < b.2 := by
          have := List.pairwise_lt_range' (s := 0) (n := l.length)
          rw [List.pairwise_iff_getElem]
          intro i j hi hj hij
          simp
          exact hij
        refine hp.imp fun {a b} hab x hx y hy => ?_
        split at hx
        · simp at hx
        split at hy
        · simp at hy
        have pre : ∀ (k : Nat) (w : Walk) (s : List Bool), ∀ x ∈ walkOn l frm length rounds k w s, ∃ p, x.list = w.list ++ p := by
          intro k
          induction k with
          | zero => intro w s x hx; simp [walkOn] at hx
          | succ k ih =>
            intro w s x hx
            rw [walkOn] at hx
            by_cases he : (w.list.length : Int) = length
            · rw [if_pos he] at hx
              split at hx
              · simp at hx
              · rw [List.mem_singleton] at hx; subst hx; exact ⟨[], by simp⟩
            · rw [if_neg he, List.mem_flatMap] at hx
              obtain ⟨⟨o, i⟩, hm, hx⟩ := hx
              split at hx
              · simp at hx
              obtain ⟨p, hp⟩ := ih _ _ x hx
              exact ⟨(i : Int) :: p, by rw [hp]; simp⟩
        obtain ⟨p, hp1⟩ := pre _ _ _ x hx
        obtain ⟨q, hq1⟩ := pre _ _ _ y hy
        rw [hp1, hq1]
        dsimp only
        rw [List.append_assoc, List.append_assoc, cmpL_app]
        simp only [List.cons_append, List.nil_append, cmpL]
        rw [if_pos (by omega)]
        decide
def Free (l : List Offer) (rounds : Bool) (frm : Int) : List Int → Int → List Int → Prop
  | _, _, [] => True
  | S, v, i :: p => ∀ o, idx l i = some o → (o.To ∉ v :: S ∨ (rounds = true ∧ p = [] ∧ o.To = frm)) ∧ Free l rounds frm (v :: S) o.To p
def SeenIs (n : Int) (s : List Bool) (S : List Int) : Prop := (s.length : Int) = n ∧ ∀ v : Int, 0 ≤ v → v < n → (s.getD v.toNat false = true ↔ v ∈ S)
theorem seen_set {n : Int} {s : List Bool} {S : List Int} (h : SeenIs n s S) {v : Int} (hv : 0 ≤ v ∧ v < n) : SeenIs n (s.set v.toNat true) (v :: S) := by
  refine ⟨by rw [List.length_set]; exact h.1, fun u h0 h1 => ?_⟩
  have hl := h.1
  by_cases hu : u = v
  · subst hu
    simp only [List.getD, List.mem_cons, true_or, iff_true]
    rw [List.getElem?_set_self (by omega)]; rfl
  · have : (s.set v.toNat true).getD u.toNat false = s.getD u.toNat false := by
      simp only [List.getD]
      rw [List.getElem?_set_ne (by omega)]
    rw [this, h.2 u h0 h1]
    simp [hu]
theorem walkOn_all {n : Int} {l : List Offer} (ho : ∀ o ∈ l, offerOk n o = true) (frm length : Int) (rounds : Bool) : ∀ (p : List Int) (w : Walk) (s : List Bool) (S : List Int) (u : Int), (w.list.length : Int) + p.length = length → Path l w.to p u →
    (decide (u = frm) == rounds) = true → Free l rounds frm S w.to p → SeenIs n s S → (0 ≤ w.to ∧ w.to < n) → ∃ x ∈ walkOn l frm length rounds (p.length + 1) w s, x.list = w.list ++ p ∧ x.to = u
  | [], w, s, S, u, hl, hp, hu, hf, hs, hw => by
    have e : w.to = u := hp
    subst e
    rw [walkOn, if_pos (by simpa using hl), if_neg (by rw [hu]; decide)]
    exact ⟨w, by simp, by simp, rfl⟩
  | i :: p, w, s, S, u, hl, ⟨o, hi, hfr, hp⟩, hu, hf, hs, hw => by
    have hok := ho o (idx_mem hi)
    simp only [offerOk, goodOffer, Bool.and_eq_true, decide_eq_true_eq] at hok
    have h0 := (idx_some hi).1
    obtain ⟨hf1, hf2⟩ := hf o hi
    have hs2 := seen_set hs hw
    have hsk : walkSkip frm length rounds w (s.set w.to.toNat true) o = false := by
      simp only [walkSkip, Bool.or_eq_false_iff, decide_eq_false_iff_not, Decidable.not_not]
      refine ⟨hfr, ?_⟩
      rcases hf1 with h | ⟨h1, h2, h3⟩
      · have : (s.set w.to.toNat true).getD o.To.toNat false = false := by
          rcases Bool.eq_false_or_eq_true ((s.set w.to.toNat true).getD o.To.toNat false) with hb | hb
          · exact absurd ((hs2.2 o.To (by omega) (by omega)).1 hb) h
          · exact hb
        rw [this, Bool.false_and]
      · subst h2
        have e1 : decide ((w.list.length : Int) = length - 1) = true := by
          refine decide_eq_true ?_
          simp at hl; omega
        rw [h1, e1, decide_eq_true h3]; simp
    obtain ⟨x, x1, x2, x3⟩ := walkOn_all ho frm length rounds p ⟨w.list ++ [i], timesN w.rate (ratioN o.Num o.Den), o.To⟩ (s.set w.to.toNat true) (w.to :: S) u (by simp at hl ⊢; omega) hp hu hf2 hs2 ⟨by dsimp only; omega, by dsimp only; omega⟩
    refine ⟨x, ?_, by rw [x2]; simp, x3⟩
    rw [walkOn, if_neg (by simp at hl; omega), List.mem_flatMap]
    refine ⟨(o, i.toNat), zipIdx_idx.2 (by rw [Int.toNat_of_nonneg h0]; exact hi), ?_⟩
    rw [if_neg (by rw [hsk]; decide)]
    have e2 : ((i.toNat : Nat) : Int) = i := Int.toNat_of_nonneg h0
    rw [e2]
    exact x1
theorem free_of {l : List Offer} {rounds : Bool} {frm : Int} : ∀ (p : List Int) (S : List Int) (v u : Int) (a : List Int), Path l frm a v → (∀ y ∈ v :: S, ∃ a1 a2, a = a1 ++ a2 ∧ Path l frm a1 y ∧ Path l y a2 v) → Path l v p u →
    (∀ (a1 c b : List Int) (x : Int), a ++ p = a1 ++ c ++ b → Path l frm a1 x → Path l x c x → Path l x b u → c = [] ∨ (rounds = true ∧ a1 = [] ∧ b = [])) → Free l rounds frm S v p
  | [], _, _, _, _, _, _, _, _ => trivial
  | i :: p, S, v, u, a, ha, hS, ⟨o, hi, hfr, hp⟩, H => by
    intro o' hi'
    rw [hi] at hi'; cases hi'
    have hstep : Path l v [i] o.To := ⟨o, hi, hfr, rfl⟩
    refine ⟨?_, ?_⟩
    · by_cases hin : o.To ∈ v :: S
      · right
        obtain ⟨a1, a2, e, h1, h2⟩ := hS _ hin
        rcases H a1 (a2 ++ [i]) p o.To (by rw [e]; simp) h1 (path_app.2 ⟨v, h2, hstep⟩) hp with h | ⟨h3, h4, h5⟩
        · simp at h
        · subst h4
          exact ⟨h3, h5, h1.symm⟩
      · exact .inl hin
    · refine free_of p (v :: S) o.To u (a ++ [i]) (path_app.2 ⟨v, ha, hstep⟩) (fun y hy => ?_) hp (fun a1 c b x e => H a1 c b x (by rw [← e]; simp))
      rcases List.mem_cons.1 hy with rfl | hy
      · exact ⟨a ++ [i], [], by simp, path_app.2 ⟨v, ha, hstep⟩, rfl⟩
      · obtain ⟨a1, a2, e, h1, h2⟩ := hS y hy
        exact ⟨a1, a2 ++ [i], by rw [e]; simp, h1, path_app.2 ⟨v, h2, hstep⟩⟩
end Go.Pv

set_option linter.unusedSimpArgs false
set_option linter.unusedVariables false
namespace Go.Pv
theorem foldUp_inv {S : Type} {h : Int → S → S} (P : Int → S → Prop) : ∀ {k : Nat} {i : Int} {s : S}, (∀ j s, i ≤ j → j < i + k → P j s → P (j + 1) (h j s)) → P i s → P (i + k) (foldUp h k i s)
  | 0, i, s, _, hp => by rw [show i + ((0 : Nat) : Int) = i by omega]; exact hp
  | k + 1, i, s, hg, hp => by
    have h2 := hg i s (by omega) (by omega) hp
    have := foldUp_inv P (k := k) (i := i + 1) (s := h i s) (fun j s h3 h4 h5 => hg j s (by omega) (by omega) h5) h2
    rw [show i + ((k + 1 : Nat) : Int) = i + 1 + (k : Int) by omega]
    exact this
theorem roundV_cases : ∀ (W : List Walk) (c : List Int), W.Pairwise (fun x y => cmpL x.list y.list ≤ 0) →
    ((∀ x ∈ W, gainsW x = false) ∧ roundV c W = c) ∨ ∃ x ∈ W, gainsW x = true ∧ roundV c W = lesser x.list c ∧ ∀ y ∈ W, gainsW y = true → cmpL x.list y.list ≤ 0
  | [], c, _ => .inl ⟨fun x hx => by simp at hx, rfl⟩
  | x :: W, c, h => by
    rw [List.pairwise_cons] at h
    rcases Bool.eq_false_or_eq_true (gainsW x) with hg | hg
    · right
      refine ⟨x, by simp, hg, by rw [roundV, if_pos hg], fun y hy _ => ?_⟩
      rcases List.mem_cons.1 hy with rfl | hy
      · rw [cmpL_self]; omega
      · exact h.1 y hy
    · have hr : roundV c (x :: W) = roundV c W := by rw [roundV, if_neg (by rw [hg]; decide)]
      rcases roundV_cases W c h.2 with ⟨h1, h2⟩ | ⟨y, h1, h2, h3, h4⟩
      · left
        refine ⟨fun z hz => ?_, by rw [hr, h2]⟩
        rcases List.mem_cons.1 hz with rfl | hz
        · exact hg
        · exact h1 z hz
      · right
        refine ⟨y, List.mem_cons_of_mem _ h1, h2, by rw [hr, h3], fun z hz hzg => ?_⟩
        rcases List.mem_cons.1 hz with rfl | hz
        · rw [hg] at hzg; cases hzg
        · exact h4 z hz hzg
theorem gainsW_iff {x : Walk} {m : Int} (h : RatOk x.rate m) : gainsW x = true ↔ 1 < toRat x.rate := by
  have := toRat_lt (p := ⟨1, 1⟩) (q := x.rate) (by decide) h.d1
  rw [toRat_one] at this
  rw [this]
  simp [gainsW, aboveS]
theorem ratOk_one : RatOk ⟨1, 1⟩ 1 := ⟨by decide, by decide, by decide, by decide, by decide⟩
theorem walksL_sound {m : Market} (hm : MarketOk m) (frm length : Int) (rounds : Bool) : ∀ x ∈ walksL m frm length rounds, Path m.offers frm x.list x.to ∧ RatOk x.rate (50 ^ x.list.length) ∧ toRat x.rate = rtp m.offers x.list ∧ (x.list.length : Int) = length ∧ (decide (x.to = frm) == rounds) = true := by
  intro x hx
  obtain ⟨p, h1, h2, h3, h4, h5⟩ := walkOn_sound hm.good frm length rounds _ ⟨[], ⟨1, 1⟩, frm⟩ _ ratOk_one x hx
  simp only [List.nil_append] at h1
  subst h1
  refine ⟨h2, h3, ?_, h5⟩
  rw [h4, toRat_one, Rat.one_mul]
theorem walksL_order (m : Market) (frm length : Int) (rounds : Bool) : (walksL m frm length rounds).Pairwise fun x y => cmpL x.list y.list ≤ 0 := walkOn_order ..
theorem seen_none (n : Int) (h : 0 ≤ n) : SeenIs n (List.replicate n.toNat false) [] := by
  refine ⟨by simp; omega, fun v h0 h1 => ?_⟩
  simp only [List.getD, List.getElem?_replicate]
  rw [if_pos (by omega)]; simp
theorem walksL_all {m : Market} (hm : MarketOk m) {frm : Int} (hf : 0 ≤ frm ∧ frm < m.n) {rounds : Bool} {p : List Int} {u : Int} (hp : Path m.offers frm p u) (hu : (decide (u = frm) == rounds) = true) (hfr : Free m.offers rounds frm [] frm p) :
    ∃ x ∈ walksL m frm p.length rounds, x.list = p ∧ x.to = u := by
  have hn1 := hm.n1
  obtain ⟨x, h1, h2, h3⟩ := walkOn_all hm.good frm p.length rounds p ⟨[], ⟨1, 1⟩, frm⟩ _ [] u (by simp) hp hu hfr (seen_none m.n (by omega)) hf
  exact ⟨x, by rw [walksL, Int.toNat_natCast]; exact h1, by simpa using h2, h3⟩
theorem rat_one_lt_mul {a b : Rat} (ha : a ≤ 1) (hb : 0 < b) : a * b ≤ b := by
  have := Rat.mul_le_mul_of_nonneg_right ha (Rat.le_of_lt hb)
  rwa [Rat.one_mul] at this
theorem gain_two {n : Int} {l : List Offer} (ho : ∀ o ∈ l, offerOk n o = true) {k : Nat} {p : List Int} (h : Gain l k p) : 2 ≤ k := by
  obtain ⟨s, h1, h2, h3⟩ := h
  match p, h1, h2, h3 with
  | [], _, _, h3 => exact absurd h3 (by rw [rtp]; decide)
  | [i], ⟨o, g1, g2, g3⟩, _, _ =>
    have hok := ho o (idx_mem g1)
    simp only [offerOk, Bool.and_eq_true, decide_eq_true_eq] at hok
    have g3' : o.To = s := g3
    exact absurd (g2.trans g3'.symm) hok.2
  | _ :: _ :: _, _, h2, _ => simp at h2; omega
theorem least_free {n : Int} {l : List Offer} (ho : ∀ o ∈ l, offerOk n o = true) {k : Nat} (hmin : ∀ k' : Nat, 2 ≤ k' → k' < k → ∀ p', ¬ Gain l k' p') {s : Int} {p : List Int} (h : GainAt l k s p) : Free l true s [] s p := by
  obtain ⟨h1, h2, h3⟩ := h
  have hno : ∀ q x, Path l x q x → q.length < k → rtp l q ≤ 1 := fun q x hq hlt => Rat.not_lt.1 fun hg => by
    have hG : Gain l q.length q := ⟨x, hq, rfl, hg⟩
    exact hmin q.length (gain_two ho hG) hlt q hG
  refine free_of p [] s s [] rfl (fun y hy => ?_) h1 (fun a1 c b x e g1 g2 g3 => ?_)
  · simp at hy; subst hy; exact ⟨[], [], rfl, rfl, rfl⟩
  · simp only [List.nil_append] at e
    by_cases hc : c = []
    · exact .inl hc
    by_cases hab : a1 = [] ∧ b = []
    · exact .inr ⟨rfl, hab⟩
    exfalso
    have hl := congrArg List.length e
    simp only [List.length_append] at hl
    have hc0 : 0 < c.length := by
      rcases Nat.eq_zero_or_pos c.length with h | h
      · exact absurd (List.length_eq_zero_iff.1 h) hc
      · exact h
    have hab0 : 0 < a1.length + b.length := by
      rcases Nat.eq_zero_or_pos (a1.length + b.length) with h | h
      · exact absurd ⟨List.length_eq_zero_iff.1 (by omega), List.length_eq_zero_iff.1 (by omega)⟩ hab
      · exact h
    have r1 := hno c x g2 (by omega)
    have r2 := hno (a1 ++ b) s (path_app.2 ⟨x, g1, g3⟩) (by simp; omega)
    rw [e, rtp_app, rtp_app, Rat.mul_comm (rtp l a1), Rat.mul_assoc, ← rtp_app] at h3
    have r3 := rat_one_lt_mul r1 (rtp_pos ho (a1 ++ b))
    exact absurd h3 (Rat.not_lt.2 (Rat.le_trans r3 r2))
theorem roundLen_none {m : Market} (hm : MarketOk m) {k : Nat} (h : ∀ p, ¬ Gain m.offers k p) : roundLen m (k : Int) = [] := by
  have := foldUp_inv (h := fun v c => roundV c (walksL m v (k : Int) true)) (fun _ c => c = ([] : List Int)) (k := m.n.toNat) (i := 0) (s := []) (fun j c _ _ hc => by
    subst hc
    rcases roundV_cases (walksL m j (k : Int) true) [] (walksL_order ..) with ⟨_, h2⟩ | ⟨x, h1, h2, _⟩
    · exact h2
    · obtain ⟨g1, g2, g3, g4, g5⟩ := walksL_sound hm j (k : Int) true x h1
      have hto : x.to = j := by simpa using g5
      rw [hto] at g1
      exact absurd ⟨j, g1, by omega, by rw [← g3]; exact (gainsW_iff g2).1 h2⟩ (h x.list)) rfl
  exact this
theorem roundLen_least {m : Market} (hm : MarketOk m) {k : Nat} (hmin : ∀ k' : Nat, 2 ≤ k' → k' < k → ∀ p', ¬ Gain m.offers k' p') {p : List Int} (hp : Gain m.offers k p) (hle : ∀ p', Gain m.offers k p' → cmpL p p' ≤ 0) : roundLen m (k : Int) = p := by
  have hk2 := gain_two hm.good hp
  obtain ⟨i0, o0, hd0, hi0, hg0⟩ := gain_head (by omega) hp
  have hok := hm.good o0 (idx_mem hi0)
  simp only [offerOk, goodOffer, Bool.and_eq_true, decide_eq_true_eq] at hok
  have hpne : p.isEmpty = false := by
    cases p with
    | nil => cases hd0
    | cons a p => rfl
  have hx : ∀ j x, x ∈ walksL m j (k : Int) true → gainsW x = true → Gain m.offers k x.list := fun j x h1 h2 => by
    obtain ⟨g1, g2, g3, g4, g5⟩ := walksL_sound hm j (k : Int) true x h1
    have hto : x.to = j := by simpa using g5
    rw [hto] at g1
    exact ⟨j, g1, by omega, by rw [← g3]; exact (gainsW_iff g2).1 h2⟩
  have key := foldUp_inv (h := fun v c => roundV c (walksL m v (k : Int) true)) (fun j c => (c = ([] : List Int) ∨ Gain m.offers k c) ∧ (o0.From < j → c = p)) (k := m.n.toNat) (i := 0) (s := []) (fun j c h0 h1 ⟨hc1, hc2⟩ => by
    have hles : ∀ x, x ∈ walksL m j (k : Int) true → gainsW x = true → (lesser x.list c = [] ∨ Gain m.offers k (lesser x.list c)) := fun x h1 h2 => by
      unfold lesser
      split
      · exact .inr (hx j x h1 h2)
      · exact hc1
    have hstay : c = p → ∀ x, x ∈ walksL m j (k : Int) true → gainsW x = true → lesser x.list c = p := fun hcp x h1 h2 => by
      subst hcp
      unfold lesser
      have h3 := hle _ (hx j x h1 h2)
      by_cases h4 : cmpL x.list c < 0
      · have := cmpL_anti (a := x.list) (b := c) (by omega) h3
        rw [this, cmpL_self] at h4; omega
      · rw [if_neg (by rw [hpne, decide_eq_false h4]; decide)]
    rcases roundV_cases (walksL m j (k : Int) true) c (walksL_order ..) with ⟨g1, g2⟩ | ⟨x, g1, g2, g3, g4⟩
    · rw [g2]
      refine ⟨hc1, fun hj => ?_⟩
      rcases Int.lt_or_le o0.From j with h | h
      · exact hc2 h
      · exfalso
        have hj' : j = o0.From := by omega
        obtain ⟨x, x1, x2, x3⟩ := walksL_all hm (frm := o0.From) ⟨by omega, by omega⟩ hg0.1 (by simp) (least_free hm.good hmin hg0)
        rw [hg0.2.1, ← hj'] at x1
        obtain ⟨_, r2, r3, _⟩ := walksL_sound hm j (k : Int) true x x1
        have := g1 x x1
        rw [(gainsW_iff r2).2 (by rw [r3, x2]; exact hg0.2.2)] at this
        cases this
    · rw [g3]
      refine ⟨hles x g1 g2, fun hj => ?_⟩
      rcases Int.lt_or_le o0.From j with h | h
      · exact hstay (hc2 h) x g1 g2
      · have hj' : j = o0.From := by omega
        obtain ⟨y, x1, x2, x3⟩ := walksL_all hm (frm := o0.From) ⟨by omega, by omega⟩ hg0.1 (by simp) (least_free hm.good hmin hg0)
        rw [hg0.2.1, ← hj'] at x1
        obtain ⟨_, r2, r3, _⟩ := walksL_sound hm j (k : Int) true y x1
        have hyg := (gainsW_iff r2).2 (by rw [r3, x2]; exact hg0.2.2)
        have h5 := g4 y x1 hyg
        rw [x2] at h5
        have h6 := cmpL_anti h5 (hle _ (hx j x g1 g2))
        rw [h6]
        unfold lesser
        rcases hc1 with h | h
        · subst h; rfl
        · by_cases h7 : cmpL p c < 0
          · rw [if_pos (by rw [decide_eq_true h7]; simp)]
          · have h8 := hle c h
            have h9 : cmpL p c = 0 := by omega
            rw [cmpL_zero h9]; simp) ⟨.inl rfl, fun h => by omega⟩
  have hn1 := hm.n1
  exact key.2 (by omega)
theorem roundFrom_eq {m : Market} (hm : MarketOk m) : ∀ (j k : Nat), j = m.n.toNat + 1 - k → 2 ≤ k → (∀ k' : Nat, 2 ≤ k' → k' < k → ∀ p', ¬ Gain m.offers k' p') →
    (∀ k' : Nat, k ≤ k' → (k' : Int) ≤ m.n → (∀ p, ¬ Gain m.offers k' p)) → roundFrom m j (k : Int) = []
  | 0, k, _, _, _, _ => rfl
  | j + 1, k, hj, hk, hmin, h => by
    rw [roundFrom, roundLen_none hm (h k (Nat.le_refl _) (by omega))]
    simp only [List.isEmpty_nil, if_true]
    exact roundFrom_eq hm j (k + 1) (by omega) (by omega) (fun k' h1 h2 => by
      rcases Nat.lt_or_ge k' k with h3 | h3
      · exact hmin k' h1 h3
      · exact h k' h3 (by omega)) (fun k' h1 h2 => h k' (by omega) h2)
theorem roundFrom_least {m : Market} (hm : MarketOk m) {k0 : Nat} (hk0 : (k0 : Int) ≤ m.n) (hmin : ∀ k' : Nat, 2 ≤ k' → k' < k0 → ∀ p', ¬ Gain m.offers k' p') {p : List Int} (hp : Gain m.offers k0 p) (hle : ∀ p', Gain m.offers k0 p' → cmpL p p' ≤ 0) :
    ∀ (j k : Nat), j = m.n.toNat + 1 - k → 2 ≤ k → k ≤ k0 → roundFrom m j (k : Int) = p
  | 0, k, hj, hk, hkk => by omega
  | j + 1, k, hj, hk, hkk => by
    rw [roundFrom]
    rcases Nat.lt_or_ge k k0 with h | h
    · rw [roundLen_none hm (hmin k hk h)]
      simp only [List.isEmpty_nil, if_true]
      exact roundFrom_least hm hk0 hmin hp hle j (k + 1) (by omega) (by omega) (by omega)
    · have : k = k0 := by omega
      subst this
      rw [roundLen_least hm hmin hp hle]
      have hpne : p.isEmpty = false := by
        obtain ⟨i0, o0, hd0, _⟩ := gain_head (by omega) hp
        cases p with
        | nil => cases hd0
        | cons a p => rfl
      rw [hpne]; rfl
theorem roundS_eq {n : Int} {l : List Offer} (hm : MarketOk ⟨n, l⟩) : ∃ b, m_cocketref01_gaining n l = some (roundS ⟨n, l⟩, b) ∧ b = !(roundS ⟨n, l⟩).isEmpty ∧ (roundS ⟨n, l⟩).length ≤ 6 ∧
    ((roundS ⟨n, l⟩).isEmpty = true → ∀ k : Nat, 2 ≤ k → (k : Int) ≤ n → ∀ p, ¬ Gain l k p) := by
  have hn1 := hm.n1
  have hn2 := hm.n2
  dsimp only at hn1 hn2
  rcases gaining_eq hm with ⟨h1, h2⟩ | ⟨k, p, h1, h2, h3, h4, h5, h6⟩
  · have hr : roundS ⟨n, l⟩ = [] := by
      have := roundFrom_eq hm (n.toNat + 1 - 2) 2 rfl (by decide) (fun k' a b => by omega) h2
      rw [roundS]
      rw [show (n - 1).toNat = n.toNat + 1 - 2 by omega]
      exact this
    exact ⟨false, by rw [hr]; exact h1, by rw [hr]; rfl, by rw [hr]; simp, fun _ => h2⟩
  · have hr : roundS ⟨n, l⟩ = p := by
      have := roundFrom_least hm h3 h6 h4 h5 (n.toNat + 1 - 2) 2 rfl (by decide) h2
      rw [roundS]
      rw [show (n - 1).toNat = n.toNat + 1 - 2 by omega]
      exact this
    have hpne : p.isEmpty = false := by
      obtain ⟨i0, o0, hd0, _⟩ := gain_head (by omega) h4
      cases p with
      | nil => cases hd0
      | cons a p => rfl
    refine ⟨true, by rw [hr]; exact h1, by rw [hr, hpne]; rfl, ?_, fun h => by rw [hr, hpne] at h; cases h⟩
    rw [hr]
    obtain ⟨s, _, g2, _⟩ := h4
    omega
end Go.Pv

set_option linter.unusedSimpArgs false
set_option linter.unusedVariables false
namespace Go.Pv
theorem pigeon : ∀ (n : Nat) (L : List Int), L.Nodup → (∀ x ∈ L, 0 ≤ x ∧ x < n) → L.length ≤ n
  | 0, L, _, h => by
    cases L with
    | nil => simp
    | cons x L => have := h x (by simp); omega
  | n + 1, L, hd, h => by
    by_cases hm : (n : Int) ∈ L
    · have h1 := pigeon n (L.erase (n : Int)) (hd.erase _) (fun x hx => by
        have h2 := (List.Nodup.mem_erase_iff hd).1 hx
        have := h x h2.2
        have := h2.1
        omega)
      rw [List.length_erase_of_mem hm] at h1
      omega
    · have := pigeon n L hd (fun x hx => by
        have h2 := h x hx
        have : x ≠ (n : Int) := fun e => hm (e ▸ hx)
        omega)
      omega
theorem free_len {n : Int} {l : List Offer} (ho : ∀ o ∈ l, offerOk n o = true) {rounds : Bool} {frm : Int} : ∀ (p : List Int) (S : List Int) (v u : Int), Path l v p u → Free l rounds frm S v p → (v :: S).Nodup → (∀ x ∈ v :: S, 0 ≤ x ∧ x < n) → 0 ≤ n →
    (S.length : Int) + p.length + (if rounds then 0 else 1) ≤ n
  | [], S, v, u, _, _, hd, hr, hn => by
    have := pigeon n.toNat (v :: S) hd (fun x hx => by have := hr x hx; omega)
    simp at this ⊢
    split <;> omega
  | i :: p, S, v, u, ⟨o, hi, _, hp⟩, hf, hd, hr, hn => by
    have hok := ho o (idx_mem hi)
    simp only [offerOk, goodOffer, Bool.and_eq_true, decide_eq_true_eq] at hok
    obtain ⟨h1, h2⟩ := hf o hi
    rcases h1 with h1 | ⟨h1, h3, _⟩
    · have := free_len ho p (v :: S) o.To u hp h2 (List.nodup_cons.2 ⟨h1, hd⟩) (fun x hx => by
        rcases List.mem_cons.1 hx with rfl | hx
        · omega
        · exact hr x hx) hn
      simp at this ⊢
      omega
    · subst h3
      have := pigeon n.toNat (v :: S) hd (fun x hx => by have := hr x hx; omega)
      simp [h1] at this ⊢
      omega
theorem no_gain {n : Int} {l : List Offer} (hm : MarketOk ⟨n, l⟩) (h : ∀ k : Nat, 2 ≤ k → (k : Int) ≤ n → ∀ p, ¬ Gain l k p) : ∀ (k : Nat) (p : List Int), ¬ Gain l k p := by
  have hn1 := hm.n1
  dsimp only at hn1
  intro k
  induction k using Nat.strongRecOn with
  | _ k ih =>
    rintro p ⟨s, hg⟩
    have h2 := gain_two hm.good ⟨s, hg⟩
    have hf := least_free hm.good (fun k' _ h1 p' => ih k' h1 p') hg
    have hs : 0 ≤ s ∧ s < n := by
      obtain ⟨i, o, g1, g2, g3⟩ := gain_head (by omega) ⟨s, hg⟩
      cases p with
      | nil => cases g1
      | cons a p =>
        simp only [List.head?_cons, Option.some.injEq] at g1
        subst g1
        obtain ⟨o', e1, e2, _⟩ := hg.1
        have hok := hm.good o' (idx_mem e1)
        simp only [offerOk, goodOffer, Bool.and_eq_true, decide_eq_true_eq] at hok
        omega
    have := free_len (n := n) hm.good p [] s s hg.1 hf (by simp) (fun x hx => by simp at hx; omega) (by omega)
    simp at this
    exact h k h2 (by have := hg.2.1; omega) p ⟨s, hg⟩
theorem shorten {n : Int} {l : List Offer} (ho : ∀ o ∈ l, offerOk n o = true) (h : ∀ (k : Nat) (p : List Int), ¬ Gain l k p) : ∀ (k : Nat) (p : List Int) (v u : Int), p.length = k → Path l v p u → ∃ q, Path l v q u ∧ Free l false v [] v q ∧ q.length ≤ k ∧ rtp l p ≤ rtp l q := by
  intro k
  induction k using Nat.strongRecOn with
  | _ k ih =>
    intro p v u hk hp
    by_cases hf : Free l false v [] v p
    · exact ⟨p, hp, hf, by omega, Rat.le_refl⟩
    · have hex : ∃ (a1 c b : List Int) (x : Int), p = a1 ++ c ++ b ∧ Path l v a1 x ∧ Path l x c x ∧ Path l x b u ∧ c ≠ [] := by
        refine Classical.byContradiction fun hne => hf ?_
        refine free_of p [] v u [] rfl (fun y hy => ?_) hp (fun a1 c b x e g1 g2 g3 => ?_)
        · simp at hy; subst hy; exact ⟨[], [], rfl, rfl, rfl⟩
        · left
          refine Classical.byContradiction fun hc => hne ⟨a1, c, b, x, by simpa using e, g1, g2, g3, hc⟩
      obtain ⟨a1, c, b, x, e, g1, g2, g3, hc⟩ := hex
      have hc0 : 0 < c.length := by
        rcases Nat.eq_zero_or_pos c.length with h | h
        · exact absurd (List.length_eq_zero_iff.1 h) hc
        · exact h
      have hl := congrArg List.length e
      simp only [List.length_append] at hl
      obtain ⟨q, q1, q2, q3, q4⟩ := ih (a1 ++ b).length (by simp; omega) (a1 ++ b) v u rfl (path_app.2 ⟨x, g1, g3⟩)
      refine ⟨q, q1, q2, by simp at q3; omega, Rat.le_trans ?_ q4⟩
      have hle : rtp l c ≤ 1 := Rat.not_lt.1 fun hg => h c.length c ⟨x, g2, rfl, hg⟩
      rw [e, rtp_app, rtp_app, Rat.mul_comm (rtp l a1), Rat.mul_assoc, ← rtp_app]
      exact rat_one_lt_mul hle (rtp_pos ho (a1 ++ b))
end Go.Pv

set_option linter.unusedSimpArgs false
set_option linter.unusedVariables false
namespace Go.Pv
def concatUp {α : Type} (W : Int → List α) : Nat → Int → List α
  | 0, _ => []
  | k + 1, i => W i ++ concatUp W k (i + 1)
theorem foldUp_foldl {α S : Type} {W : Int → List α} {f : S → α → S} : ∀ (k : Nat) (i : Int) (s : S), foldUp (fun i s => (W i).foldl f s) k i s = (concatUp W k i).foldl f s
  | 0, _, _ => rfl
  | k + 1, i, s => by rw [foldUp, concatUp, List.foldl_append, foldUp_foldl k (i + 1)]
theorem mem_concatUp {α : Type} {W : Int → List α} {x : α} : ∀ {k : Nat} {i : Int}, x ∈ concatUp W k i ↔ ∃ j : Int, i ≤ j ∧ j < i + k ∧ x ∈ W j
  | 0, i => by simp [concatUp]; intro j h1 h2; omega
  | k + 1, i => by
    rw [concatUp, List.mem_append, mem_concatUp]
    constructor
    · rintro (h | ⟨j, h1, h2, h3⟩)
      · exact ⟨i, by omega, by omega, h⟩
      · exact ⟨j, by omega, by omega, h3⟩
    · rintro ⟨j, h1, h2, h3⟩
      rcases Int.lt_or_le i j with h | h
      · exact .inr ⟨j, by omega, by omega, h3⟩
      · have : j = i := by omega
        subst this; exact .inl h3
def ordW (x y : Walk) : Prop := x.list.length < y.list.length ∨ (x.list.length = y.list.length ∧ cmpL x.list y.list ≤ 0)
def BestSo (to : Int) (W : List Walk) (s : Walk × Bool) : Prop :=
  (s.2 = false → ∀ y ∈ W, y.to ≠ to) ∧ (s.2 = true → s.1 ∈ W ∧ s.1.to = to ∧ ∀ y ∈ W, y.to = to → toRat y.rate ≤ toRat s.1.rate ∧ (toRat y.rate = toRat s.1.rate → ordW s.1 y))
theorem aboveS_iff {p q : Ratio} (hp : 1 ≤ p.Den) (hq : 1 ≤ q.Den) : aboveS p q = true ↔ toRat q < toRat p := by
  rw [toRat_lt hq hp]; simp [aboveS]
theorem bestSo_step {to : Int} {W : List Walk} {s : Walk × Bool} {x : Walk} (hd : ∀ y ∈ W ++ [x], 1 ≤ y.rate.Den) (ho : ∀ y ∈ W, ordW y x) (h : BestSo to W s) : BestSo to (W ++ [x]) (bestStep to s x) := by
  obtain ⟨w, b⟩ := s
  have hrefl : ∀ z : Walk, ordW z z := fun z => .inr ⟨rfl, by rw [cmpL_self]; omega⟩
  unfold bestStep
  by_cases hx : x.to = to
  · cases b with
    | false =>
      have h1 := h.1 rfl
      rw [if_pos (by simp [hx])]
      refine ⟨fun h => (by cases h), fun _ => ⟨by simp, hx, fun y hy hyt => ?_⟩⟩
      rcases List.mem_append.1 hy with hy | hy
      · exact absurd hyt (h1 y hy)
      · simp at hy; subst hy; exact ⟨Rat.le_refl, fun _ => hrefl _⟩
    | true =>
      obtain ⟨h1, h2, h3⟩ := h.2 rfl
      dsimp only at h1 h2 h3
      have hab := aboveS_iff (p := x.rate) (q := w.rate) (hd x (by simp)) (hd w (by simp [h1]))
      by_cases hc : toRat w.rate < toRat x.rate
      · rw [if_pos (by simp [hx, hab.2 hc])]
        refine ⟨fun h => (by cases h), fun _ => ⟨by simp, hx, fun y hy hyt => ?_⟩⟩
        dsimp only
        rcases List.mem_append.1 hy with hy | hy
        · have h4 := (h3 y hy hyt).1
          have h5 : toRat y.rate < toRat x.rate := Rat.not_le.1 fun h => Rat.not_le.2 hc (Rat.le_trans h h4)
          exact ⟨Rat.le_of_lt h5, fun e => absurd h5 (by rw [e]; exact Rat.lt_irrefl)⟩
        · simp at hy; subst hy; exact ⟨Rat.le_refl, fun _ => hrefl _⟩
      · have hab2 : aboveS x.rate w.rate = false := by
          rcases Bool.eq_false_or_eq_true (aboveS x.rate w.rate) with h | h
          · exact absurd (hab.1 h) hc
          · exact h
        rw [if_neg (by simp [hab2])]
        refine ⟨fun h => (by cases h), fun _ => ⟨by simp [h1], h2, fun y hy hyt => ?_⟩⟩
        dsimp only
        rcases List.mem_append.1 hy with hy | hy
        · exact h3 y hy hyt
        · simp at hy; subst hy
          exact ⟨Rat.not_lt.1 hc, fun _ => ho w h1⟩
  · rw [if_neg (by simp [hx])]
    refine ⟨fun hb y hy => ?_, fun hb => ?_⟩
    · rcases List.mem_append.1 hy with hy | hy
      · exact h.1 hb y hy
      · simp at hy; subst hy; exact hx
    · obtain ⟨h1, h2, h3⟩ := h.2 hb
      refine ⟨by simp [h1], h2, fun y hy hyt => ?_⟩
      rcases List.mem_append.1 hy with hy | hy
      · exact h3 y hy hyt
      · simp at hy; subst hy; exact absurd hyt hx
theorem bestSo_fold {to : Int} : ∀ (W V : List Walk) (s : Walk × Bool), (∀ y ∈ W ++ V, 1 ≤ y.rate.Den) → (W ++ V).Pairwise ordW → BestSo to W s → BestSo to (W ++ V) (V.foldl (bestStep to) s)
  | W, [], s, _, _, h => by simpa using h
  | W, x :: V, s, hd, hp, h => by
    have e : W ++ x :: V = (W ++ [x]) ++ V := by simp
    rw [e] at hd hp ⊢
    refine bestSo_fold (W ++ [x]) V _ hd hp (bestSo_step (fun y hy => hd y (by simp at hy ⊢; rcases hy with h | h <;> simp [h])) (fun y hy => ?_) h)
    rw [List.pairwise_append] at hp
    have := hp.1
    rw [List.pairwise_append] at this
    exact this.2.2 y hy x (by simp)
end Go.Pv

set_option linter.unusedSimpArgs false
set_option linter.unusedVariables false
namespace Go.Pv
def allW (m : Market) (frm : Int) : List Walk := concatUp (fun k => walksL m frm k false) (m.n - 1).toNat 1
theorem concatUp_pairwise {m : Market} (hm : MarketOk m) (frm : Int) : ∀ (k : Nat) (i : Int), (concatUp (fun k => walksL m frm k false) k i).Pairwise ordW
  | 0, _ => by simp [concatUp]
  | k + 1, i => by
    rw [concatUp, List.pairwise_append]
    refine ⟨?_, concatUp_pairwise hm frm k (i + 1), fun x hx y hy => ?_⟩
    · refine (walksL_order m frm i false).imp_of_mem fun {a b} ha hb hab => ?_
      have h1 := (walksL_sound hm frm i false a ha).2.2.2.1
      have h2 := (walksL_sound hm frm i false b hb).2.2.2.1
      exact .inr ⟨by omega, hab⟩
    · obtain ⟨j, h1, h2, h3⟩ := mem_concatUp.1 hy
      have h4 := (walksL_sound hm frm i false x hx).2.2.2.1
      have h5 := (walksL_sound hm frm j false y h3).2.2.2.1
      exact .inl (by omega)
theorem allW_sound {m : Market} (hm : MarketOk m) (frm : Int) : ∀ x ∈ allW m frm, Path m.offers frm x.list x.to ∧ RatOk x.rate (50 ^ 5) ∧ toRat x.rate = rtp m.offers x.list ∧ 1 ≤ x.list.length ∧ (x.list.length : Int) < m.n := by
  intro x hx
  have hn1 := hm.n1
  have hn2 := hm.n2
  obtain ⟨j, h1, h2, h3⟩ := mem_concatUp.1 hx
  obtain ⟨g1, g2, g3, g4, g5⟩ := walksL_sound hm frm j false x h3
  exact ⟨g1, g2.le (pow50_le (by omega)), g3, by omega, by omega⟩
theorem allW_all {m : Market} (hm : MarketOk m) {frm : Int} (hf : 0 ≤ frm ∧ frm < m.n) {p : List Int} {u : Int} (hp : Path m.offers frm p u) (hfr : Free m.offers false frm [] frm p) (hne : frm ≠ u) : ∃ x ∈ allW m frm, x.list = p ∧ x.to = u := by
  have hn1 := hm.n1
  have hlen := free_len (n := m.n) hm.good p [] frm u hp hfr (by simp) (fun x hx => by simp at hx; omega) (by omega)
  simp at hlen
  have hp0 : 1 ≤ p.length := by
    cases p with
    | nil => exact absurd hp hne
    | cons i p => simp
  obtain ⟨x, x1, x2, x3⟩ := walksL_all hm hf hp (rounds := false) (by simp; exact fun h => hne h.symm) hfr
  exact ⟨x, mem_concatUp.2 ⟨p.length, by omega, by omega, x1⟩, x2, x3⟩
theorem bestS_so {m : Market} (hm : MarketOk m) {frm to : Int} (hne : frm ≠ to) : BestSo to (allW m frm) (bestS m frm to) := by
  rw [bestS, if_neg hne, foldUp_foldl]
  have := bestSo_fold (to := to) [] (allW m frm) (⟨[], ⟨0, 0⟩, 0⟩, false) (fun y hy => (allW_sound hm frm y (by simpa using hy)).2.1.d1) (by rw [List.nil_append]; exact concatUp_pairwise hm frm _ _) ⟨fun _ y hy => by simp at hy, fun h => by cases h⟩
  rw [List.nil_append] at this; exact this
def Greatest (l : List Offer) (v u : Int) (r : Ratio) : Prop := (∃ p, Path l v p u ∧ rtp l p = toRat r) ∧ ∀ p, Path l v p u → rtp l p ≤ toRat r
theorem best_rate {n : Int} {l : List Offer} (hm : MarketOk ⟨n, l⟩) (h : ∀ (k : Nat) (p : List Int), ¬ Gain l k p) {frm to : Int} (hf : 0 ≤ frm ∧ frm < n) (hne : frm ≠ to) :
    ((bestS ⟨n, l⟩ frm to).2 = true → RatOk (bestS ⟨n, l⟩ frm to).1.rate (50 ^ 5) ∧ Greatest l frm to (bestS ⟨n, l⟩ frm to).1.rate) ∧
    ((bestS ⟨n, l⟩ frm to).2 = false → ∀ p, ¬ Path l frm p to) := by
  have hb := bestS_so hm (frm := frm) hne
  refine ⟨fun ht => ?_, fun hfl p hp => ?_⟩
  · obtain ⟨h1, h2, h3⟩ := hb.2 ht
    obtain ⟨g1, g2, g3, g4, g5⟩ := allW_sound hm frm _ h1
    refine ⟨g2, ⟨_, by rw [h2] at g1; exact g1, g3.symm⟩, fun p hp => ?_⟩
    obtain ⟨q, q1, q2, q3, q4⟩ := shorten hm.good h p.length p frm to rfl hp
    obtain ⟨x, x1, x2, x3⟩ := allW_all hm hf q1 q2 hne
    have h4 := (h3 x x1 x3).1
    have h5 := (allW_sound hm frm x x1).2.2.1
    rw [x2] at h5
    exact Rat.le_trans q4 (by rw [← h5]; exact h4)
  · obtain ⟨q, q1, q2, q3, q4⟩ := shorten hm.good h p.length p frm to rfl hp
    obtain ⟨x, x1, x2, x3⟩ := allW_all hm hf q1 q2 hne
    exact hb.1 hfl x x1 x3
end Go.Pv

set_option linter.unusedSimpArgs false
set_option linter.unusedVariables false
namespace Go.Pv
def betterB (c : Option Ratio) (r : Ratio) : Bool := match c with
  | none => true
  | some x => decide (toRat x < toRat r)
theorem better_eq' {e : Reach} {c : Option Ratio} {q : Q} {r : Ratio} {m : Int} (he : IsR e c) (hq : IsQ q r) (hc : ∀ x, c = some x → RatOk x m) (hr : RatOk r m) (hm : m < 10000 ^ 40) : m_cocketref01_better e q = some (betterB c r) := by
  rw [better_eq he hq hc hr hm]
  cases c <;> rfl
end Go.Pv

set_option linter.unusedSimpArgs false
set_option linter.unusedVariables false
namespace Go.Pv
end Go.Pv

set_option linter.unusedSimpArgs false
set_option linter.unusedVariables false
namespace Go.Pv
end Go.Pv

set_option linter.unusedSimpArgs false
set_option linter.unusedVariables false
namespace Go.Pv
theorem closed_le {l : List Offer} (h : ∀ (k : Nat) (p : List Int), ¬ Gain l k p) {v : Int} {p : List Int} (hp : Path l v p v) : rtp l p ≤ 1 := Rat.not_lt.1 fun hg => h p.length p ⟨v, hp, rfl, hg⟩
theorem one_ok : RatOk ⟨1, 1⟩ (50 ^ 5) := ratOk_one.le (by decide)
end Go.Pv

set_option linter.unusedSimpArgs false
set_option linter.unusedVariables false
namespace Go.Pv
end Go.Pv

set_option linter.unusedSimpArgs false
set_option linter.unusedVariables false
namespace Go.Pv
def TopAt (l : List Offer) (to frm : Int) (N many : Nat) (g : Option Ratio) : Prop :=
  match g with
  | none => ∀ k < N, bestK l to k frm = none
  | some r => many < N ∧ bestK l to many frm = some r ∧ ∀ k < N, ∀ x, bestK l to k frm = some x → toRat x ≤ toRat r ∧ (k < many → toRat x < toRat r)
theorem p505 : (50 : Int) ^ 5 = 312500000 := by decide
theorem p40 : (10000 : Int) ^ 12 ≤ 10000 ^ 40 := pow_le_pow (by decide)
theorem p12 : (10000 : Int) ^ 12 = 1000000000000000000000000000000000000000000000000 := by decide
theorem bestK_ok5 {n : Int} {l : List Offer} (hm : MarketOk ⟨n, l⟩) {to v : Int} {k : Nat} (hk : k ≤ 5) {r : Ratio} (h : bestK l to k v = some r) : RatOk r 312500000 := by
  have := (bestK_ok hm.good to k v r h).le (pow50_le hk)
  rw [p505] at this; exact this
theorem refBest_l1 {n : Int} {l : List Offer} (hm : MarketOk ⟨n, l⟩) {R : List (List Reach)} {to frm : Int} (hf : 0 ≤ frm ∧ frm < n) (hR : ∀ i : Nat, i < n.toNat → ∃ r, idx R (i : Int) = some r ∧ RL n r (bestK l to i)) :
    ∀ (j k many : Nat) (c : Reach) (g : Option Ratio), j = n.toNat - k → (k : Int) ≤ n → IsR c g → TopAt l to frm k many g →
    ∃ (many' : Nat) (c' : Reach) (g' : Option Ratio), iter (m_cocketref01_best_l1 n frm R) ((many : Int), (k : Int), c) = some ((many' : Int), c') ∧ IsR c' g' ∧ TopAt l to frm n.toNat many' g'
  | 0, k, many, c, g, hj, hk, hc, ht => by
    have e : k = n.toNat := by omega
    subst e
    refine ⟨many, c, g, iter_done ?_, hc, ht⟩
    rw [m_cocketref01_best_l1, decide_eq_false (by omega)]; rfl
  | j + 1, k, many, c, g, hj, hk, hc, ht => by
    have hn2 := hm.n2
    dsimp only at hn2
    obtain ⟨r, r1, r2⟩ := hR k (by omega)
    obtain ⟨e, e1, e2⟩ := r2.2 frm hf.1 hf.2
    have hwi : IntKind.i64.wrap ((k : Int) + 1) = ((k + 1 : Nat) : Int) := by rw [wrap_i64_eq (by omega)]; omega
    have hgo : ∀ x, g = some x → RatOk x 312500000 := fun x hx => by
      subst hx
      exact bestK_ok5 hm (by have := ht.1; omega) ht.2.1
    have goOn : ∀ (many1 : Nat) (c1 : Reach) (g1 : Option Ratio), IsR c1 g1 → TopAt l to frm (k + 1) many1 g1 → m_cocketref01_best_l1 n frm R ((many : Int), (k : Int), c) = some (.inl ((many1 : Int), ((k + 1 : Nat) : Int), c1)) →
        ∃ (many' : Nat) (c' : Reach) (g' : Option Ratio), iter (m_cocketref01_best_l1 n frm R) ((many : Int), (k : Int), c) = some ((many' : Int), c') ∧ IsR c' g' ∧ TopAt l to frm n.toNat many' g' := fun many1 c1 g1 h1 h2 h3 => by
      obtain ⟨a, b, d, f1, f2, f3⟩ := refBest_l1 hm hf hR j (k + 1) many1 c1 g1 (by omega) (by omega) h1 h2
      exact ⟨a, b, d, iter_step h3 f1, f2, f3⟩
    cases hb : bestK l to k frm with
    | none =>
      rw [hb] at e2
      have hIs : e.Is = false := e2
      refine goOn many c g hc ?_ ?_
      · cases g with
        | none =>
          intro k' hk'
          rcases Nat.lt_or_ge k' k with h | h
          · exact ht k' h
          · have : k' = k := by omega
            rw [this]; exact hb
        | some r0 =>
          refine ⟨by have := ht.1; omega, ht.2.1, fun k' hk' x hx => ?_⟩
          rcases Nat.lt_or_ge k' k with h | h
          · exact ht.2.2 k' h x hx
          · have : k' = k := by omega
            rw [this, hb] at hx; cases hx
      · rw [m_cocketref01_best_l1, decide_eq_true (by omega)]
        simp only [cond_true, cond_false, r1, e1, Option.bind_some, hIs, hwi]
    | some x =>
      rw [hb] at e2
      obtain ⟨hIs, hQ⟩ : e.Is = true ∧ IsQ e.Rate x := e2
      have hx5 := bestK_ok5 hm (by omega) hb
      have hbet := better_eq' hc hQ hgo hx5 (by have := p40; have := p12; omega)
      rcases Bool.eq_false_or_eq_true (betterB g x) with hb1 | hb1
      · refine goOn k e (some x) ⟨hIs, hQ⟩ ⟨by omega, hb, fun k' hk' y hy => ?_⟩ ?_
        · rcases Nat.lt_or_ge k' k with h | h
          · have hlt : toRat y < toRat x := by
              cases g with
              | none => rw [ht k' h] at hy; cases hy
              | some r0 =>
                have h1 := (ht.2.2 k' h y hy).1
                have h2 : toRat r0 < toRat x := by simpa [betterB] using hb1
                exact Rat.not_le.1 fun h3 => Rat.not_le.2 h2 (Rat.le_trans h3 h1)
            exact ⟨Rat.le_of_lt hlt, fun _ => hlt⟩
          · have : k' = k := by omega
            rw [this, hb] at hy; cases hy
            exact ⟨Rat.le_refl, fun h => absurd h (by omega)⟩
        · rw [m_cocketref01_best_l1, decide_eq_true (by omega)]
          simp only [cond_true, cond_false, r1, e1, Option.bind_some, hIs, hbet, hb1, hwi]
      · refine goOn many c g hc ?_ ?_
        · cases g with
          | none => cases hb1
          | some r0 =>
            have h2 : ¬ toRat r0 < toRat x := by simpa [betterB] using hb1
            refine ⟨by have := ht.1; omega, ht.2.1, fun k' hk' y hy => ?_⟩
            rcases Nat.lt_or_ge k' k with h | h
            · exact ht.2.2 k' h y hy
            · have e0 : k' = k := by omega
              subst e0
              rw [hb] at hy; cases hy
              exact ⟨Rat.not_lt.1 h2, fun h3 => absurd h3 (by have := ht.1; omega)⟩
        · rw [m_cocketref01_best_l1, decide_eq_true (by omega)]
          simp only [cond_true, cond_false, r1, e1, Option.bind_some, hIs, hbet, hb1, hwi]
def validB (l : List Offer) (to : Int) (kk : Nat) (v : Int) (c : Rat) (i : Int) : Prop := ∃ o, idx l i = some o ∧ o.From = v ∧ ∃ x, bestK l to kk o.To = some x ∧ toRat (rateO o) * toRat x = c
theorem refBest_l3 {n : Int} {l : List Offer} (hm : MarketOk ⟨n, l⟩) {R : List (List Reach)} {to : Int} (hR : ∀ i : Nat, i < n.toNat → ∃ r, idx R (i : Int) = some r ∧ RL n r (bestK l to i)) {v : Int} {many : Nat} (hmany : (many : Int) < n)
    {L : List Int} {q : Q} {c : Ratio} (hL : L.length < many) (hq : IsQ q c) (hc : RatOk c 312500000) : ∀ (j i : Nat), j = l.length - i → (∃ i', i ≤ i' ∧ validB l to (many - L.length - 1) v (toRat c) (i' : Int)) →
    ∃ (i' : Nat) (o : Offer) (x : Ratio) (q' : Q), iter (m_cocketref01_best_l3 l R (many : Int) v) ((i : Int), L, q) = some (o.To, L ++ [(i' : Int)], q') ∧ (∀ i'', i ≤ i'' → i'' < i' → ¬ validB l to (many - L.length - 1) v (toRat c) (i'' : Int)) ∧
      idx l (i' : Int) = some o ∧ o.From = v ∧ bestK l to (many - L.length - 1) o.To = some x ∧ toRat (rateO o) * toRat x = toRat c ∧ IsQ q' x
  | 0, i, hj, ⟨i', h1, o, h2, _⟩ => by
    have := (idx_some h2).2.1
    omega
  | j + 1, i, hj, hex => by
    have hlen := hm.len
    have hn2 := hm.n2
    dsimp only at hlen hn2
    have hil : i < l.length := by
      obtain ⟨i', h1, o, h2, _⟩ := hex
      have := (idx_some h2).2.1
      omega
    obtain ⟨o, e1, e2, e3, e4⟩ := idx_lt (l := l) (i := (i : Int)) (by omega) (by omega)
    have hok := hm.good o e4
    have hok2 := hok
    simp only [offerOk, goodOffer, Bool.and_eq_true, decide_eq_true_eq] at hok2
    have hwi : IntKind.i64.wrap ((i : Int) + 1) = ((i + 1 : Nat) : Int) := by rw [wrap_i64_eq (by omega)]; omega
    have ew : IntKind.i64.wrap (IntKind.i64.wrap ((many : Int) - (L.length : Int)) - 1) = ((many - L.length - 1 : Nat) : Int) := by
      rw [wrap_i64_eq (x := (many : Int) - (L.length : Int)) (by omega), wrap_i64_eq (by omega)]; omega
    obtain ⟨Rr, f1, f2⟩ := hR (many - L.length - 1) (by omega)
    obtain ⟨e, f3, f4⟩ := f2.2 o.To (by omega) (by omega)
    have hon : ¬ validB l to (many - L.length - 1) v (toRat c) (i : Int) → m_cocketref01_best_l3 l R (many : Int) v ((i : Int), L, q) = some (.inl (((i + 1 : Nat) : Int), L, q)) →
        ∃ (i' : Nat) (o : Offer) (x : Ratio) (q' : Q), iter (m_cocketref01_best_l3 l R (many : Int) v) ((i : Int), L, q) = some (o.To, L ++ [(i' : Int)], q') ∧ (∀ i'', i ≤ i'' → i'' < i' → ¬ validB l to (many - L.length - 1) v (toRat c) (i'' : Int)) ∧
          idx l (i' : Int) = some o ∧ o.From = v ∧ bestK l to (many - L.length - 1) o.To = some x ∧ toRat (rateO o) * toRat x = toRat c ∧ IsQ q' x := fun hnv hst => by
      obtain ⟨i', h1, h2⟩ := hex
      have hne : i ≠ i' := fun h => by subst h; exact hnv h2
      obtain ⟨i2, o2, x2, q2, g1, g2, g3⟩ := refBest_l3 hm hR (v := v) hmany hL hq hc j (i + 1) (by omega) ⟨i', by omega, h2⟩
      refine ⟨i2, o2, x2, q2, iter_step hst g1, fun i'' h3 h4 => ?_, g3⟩
      rcases Nat.lt_or_ge i i'' with h | h
      · exact g2 i'' (by omega) h4
      · have : i = i'' := by omega
        subst this; exact hnv
    by_cases hv : o.From = v
    · cases hx : bestK l to (many - L.length - 1) o.To with
      | none =>
        rw [hx] at f4
        have hIs : e.Is = false := f4
        refine hon (fun ⟨o', h1, h2, x, h3, h4⟩ => by rw [e1] at h1; cases h1; rw [hx] at h3; cases h3) ?_
        rw [m_cocketref01_best_l3, decide_eq_true (by omega)]
        simp only [cond_true, e1, Option.bind_some, decide_eq_true hv, ew, f1, f3, hIs, cond_false, hwi]
      | some x =>
        rw [hx] at f4
        obtain ⟨hIs, hQ⟩ : e.Is = true ∧ IsQ e.Rate x := f4
        obtain ⟨qo, r1, r2⟩ := rate_eq hok
        have hro := rateO_ok hok
        have hxo := bestK_ok5 hm (by omega) hx
        obtain ⟨qm, m1, m2⟩ := Mul_eq r2 hQ (hro.le (m' := 312500000) (by decide)) hxo (by have := p40; have := p12; omega)
        have hmo := mulN_ok hro hxo
        have hcmp := Cmp_eq m2 hq (hmo.le (m' := 15625000000) (by decide)) (hc.le (by decide)) (by have := p40; have := p12; omega)
        have hlt1 := toRat_lt hmo.d1 hc.d1
        have hlt2 := toRat_lt hc.d1 hmo.d1
        rw [toRat_mulN hro.n1 hro.d1 hxo.n1 hxo.d1] at hlt1 hlt2
        by_cases hz : toRat (rateO o) * toRat x = toRat c
        · have hs0 : sgn ((mulN (rateO o) x).Num * c.Den - c.Num * (mulN (rateO o) x).Den) = 0 := by
            rw [hz] at hlt1 hlt2
            have a1 := mt hlt1.2 Rat.lt_irrefl
            have a2 := mt hlt2.2 Rat.lt_irrefl
            have : (mulN (rateO o) x).Num * c.Den - c.Num * (mulN (rateO o) x).Den = 0 := by omega
            rw [this]; rfl
          refine ⟨i, o, x, e.Rate, iter_done ?_, fun i'' h1 h2 => absurd h1 (by omega), e1, hv, hx, hz, hQ⟩
          rw [m_cocketref01_best_l3, decide_eq_true (by omega)]
          simp only [cond_true, e1, Option.bind_some, decide_eq_true hv, ew, f1, f3, hIs, r1, m1, hcmp, hs0, decide_true]
          rw [guardO_pos (by simp; omega)]
        · have hs0 : sgn ((mulN (rateO o) x).Num * c.Den - c.Num * (mulN (rateO o) x).Den) ≠ 0 := fun h0 => by
            have a1 := (sgn_zero _).1 h0
            refine hz (Rat.le_antisymm ?_ ?_)
            · exact Rat.not_lt.1 fun h => by have := hlt2.1 h; omega
            · exact Rat.not_lt.1 fun h => by have := hlt1.1 h; omega
          refine hon (fun ⟨o', h1, h2, x', h3, h4⟩ => by rw [e1] at h1; cases h1; rw [hx] at h3; cases h3; exact hz h4) ?_
          rw [m_cocketref01_best_l3, decide_eq_true (by omega)]
          simp only [cond_true, e1, Option.bind_some, decide_eq_true hv, ew, f1, f3, hIs, r1, m1, hcmp, decide_eq_false hs0, cond_false, hwi]
    · refine hon (fun ⟨o', h1, h2, _⟩ => by rw [e1] at h1; cases h1; exact hv h2) ?_
      rw [m_cocketref01_best_l3, decide_eq_true (by omega)]
      simp only [cond_true, e1, Option.bind_some, decide_eq_false hv, cond_false, hwi, ew, f1, f3]
end Go.Pv

set_option linter.unusedSimpArgs false
set_option linter.unusedVariables false
namespace Go.Pv
def LeastB (l : List Offer) (frm to : Int) (many : Nat) (c : Rat) (L : List Int) : Prop :=
  ∀ p', Path l frm p' to → p'.length = many → rtp l p' = c → p'.take L.length = L ∨ cmpL L (p'.take L.length) < 0
theorem rat_cancel {a b c : Rat} (ha : 0 < a) (h : a * b = a * c) : b = c := by
  have h2 : a⁻¹ * (a * b) = a⁻¹ * (a * c) := by rw [h]
  have ne : a ≠ 0 := fun e => by rw [e] at ha; exact absurd ha Rat.lt_irrefl
  rw [← Rat.mul_assoc, ← Rat.mul_assoc, Rat.inv_mul_cancel _ ne, Rat.one_mul, Rat.one_mul] at h2
  exact h2
theorem validB_of_path {n : Int} {l : List Offer} (ho : ∀ o ∈ l, offerOk n o = true) {to v i : Int} {rest : List Int} {c : Ratio} (hb : bestK l to (rest.length + 1) v = some c) (hp : Path l v (i :: rest) to) (hr : rtp l (i :: rest) = toRat c) : validB l to rest.length v (toRat c) i := by
  obtain ⟨o, h1, h2, h3⟩ := hp
  obtain ⟨x, h4, h5⟩ := bestK_most ho to rest o.To h3
  have hro := rateO_ok (ho o (idx_mem h1))
  have hpos := toRat_pos hro.n1 hro.d1
  obtain ⟨p2, g1, g2, g3⟩ := bestK_path ho to _ _ x h4
  obtain ⟨c', c1, c2⟩ := bestK_most ho to (i :: p2) v ⟨o, h1, h2, g1⟩
  have e : (i :: p2).length = rest.length + 1 := by simp [g2]
  rw [e, hb] at c1; cases c1
  refine ⟨o, h1, h2, x, h4, Rat.le_antisymm ?_ ?_⟩
  · rw [rtp, rtI, h1] at c2
    dsimp only at c2
    rw [g3] at c2; exact c2
  · rw [← hr, rtp, rtI, h1]
    exact Rat.mul_le_mul_of_nonneg_left h5 (Rat.le_of_lt hpos)
theorem refBest_l2 {n : Int} {l : List Offer} (hm : MarketOk ⟨n, l⟩) {R : List (List Reach)} {to frm : Int} (hR : ∀ i : Nat, i < n.toNat → ∃ r, idx R (i : Int) = some r ∧ RL n r (bestK l to i)) {many : Nat} (hmany : (many : Int) < n) {t : Rat} :
    ∀ (j : Nat) (L : List Int) (q : Q) (c : Ratio) (v : Int), j = many - L.length → L.length ≤ many → IsQ q c → bestK l to (many - L.length) v = some c → Path l frm L v → rtp l L * toRat c = t → LeastB l frm to many t L →
    ∃ p, iter (m_cocketref01_best_l2 l R (many : Int)) (v, L, q) = some p ∧ Path l frm p to ∧ p.length = many ∧ rtp l p = t ∧ ∀ p', Path l frm p' to → p'.length = many → rtp l p' = t → cmpL p p' ≤ 0
  | 0, L, q, c, v, hj, hLk, hq, hb, hp, ht, hls => by
    have e : L.length = many := by omega
    rw [e, Nat.sub_self] at hb
    unfold bestK at hb
    split at hb
    · rename_i hvs
      cases hb
      subst hvs
      rw [toRat_one, Rat.mul_one] at ht
      refine ⟨L, iter_done ?_, hp, e, ht, fun p' h1 h2 h3 => ?_⟩
      · rw [m_cocketref01_best_l2, decide_eq_false (by omega)]; rfl
      · have := hls p' h1 h2 h3
        rw [e, List.take_of_length_le (by omega)] at this
        rcases this with h | h
        · rw [h, cmpL_self]; omega
        · omega
    · cases hb
  | j + 1, L, q, c, v, hj, hLk, hq, hb, hp, ht, hls => by
    have hlen := hm.len
    have hn2 := hm.n2
    dsimp only at hlen hn2
    have hc5 := bestK_ok5 hm (by omega) hb
    have hLpos := rtp_pos hm.good L
    have e1 : many - L.length = many - L.length - 1 + 1 := by omega
    have hex : ∃ i', 0 ≤ i' ∧ validB l to (many - L.length - 1) v (toRat c) (i' : Nat) := by
      obtain ⟨p, p1, p2, p3⟩ := bestK_path hm.good to _ _ c hb
      cases p with
      | nil => simp at p2; omega
      | cons i0 rest =>
        have hrl : rest.length = many - L.length - 1 := by simp at p2; omega
        have := validB_of_path hm.good (by rw [hrl, ← e1]; exact hb) p1 p3
        rw [hrl] at this
        have this2 := this
        obtain ⟨o, o1, _⟩ := this2
        have h0 := (idx_some o1).1
        refine ⟨i0.toNat, Nat.zero_le _, ?_⟩
        rw [Int.toNat_of_nonneg h0]
        exact this
    obtain ⟨i', o, x, q', g1, g4, g5, g7, g8, g9, g6⟩ := refBest_l3 hm hR (v := v) hmany (L := L) (q := q) (c := c) (by omega) hq hc5 l.length 0 (by omega) hex
    have hro := rateO_ok (hm.good o (idx_mem g5))
    have hls2 : LeastB l frm to many t (L ++ [(i' : Int)]) := fun p' h1 h2 h3 => by
      obtain ⟨a, rest, hsplit⟩ : ∃ a rest, p' = p'.take L.length ++ a :: rest := ⟨p'[L.length]'(by omega), p'.drop (L.length + 1), by rw [← List.drop_eq_getElem_cons]; exact (List.take_append_drop _ _).symm⟩
      have htk : p'.take (L.length + 1) = p'.take L.length ++ [a] := by
        have hlt : (p'.take L.length).length = L.length := by rw [List.length_take]; omega
        have : p'.take (L.length + 1) = (p'.take L.length ++ a :: rest).take (L.length + 1) := by rw [← hsplit]
        rw [this, List.take_append, hlt]
        simp
        rw [List.take_of_length_le (by simp; omega)]
      rw [List.length_append, List.length_singleton, htk]
      rcases hls p' h1 h2 h3 with h | h
      · rw [h] at hsplit ⊢
        have hpath := h1
        rw [hsplit] at hpath
        obtain ⟨w, w1, w2⟩ := path_app.1 hpath
        have hwv := path_det w1 hp
        subst hwv
        have hg := h3
        rw [hsplit, rtp_app, ← ht] at hg
        have hg2 := rat_cancel hLpos hg
        have hrl : rest.length = many - L.length - 1 := by
          have := congrArg List.length hsplit
          simp at this
          omega
        have hva := validB_of_path hm.good (by rw [hrl, ← e1]; exact hb) w2 hg2
        rw [hrl] at hva
        have ha0 : 0 ≤ a := by
          obtain ⟨o', o1', _⟩ := hva
          exact (idx_some o1').1
        have hai : i' ≤ a.toNat := by
          rcases Nat.lt_or_ge a.toNat i' with hlt | hge
          · exact absurd (by rw [Int.toNat_of_nonneg ha0]; exact hva) (g4 a.toNat (Nat.zero_le _) hlt)
          · exact hge
        rcases Nat.lt_or_ge i' a.toNat with hlt | hge
        · right
          rw [cmpL_app]
          simp only [cmpL]
          rw [if_pos (by omega)]; decide
        · left
          have : a = (i' : Int) := by omega
          rw [this]
      · right
        exact cmpL_lt_app (by rw [List.length_take]; omega) h _ _
    obtain ⟨p, f1, f2⟩ := refBest_l2 hm hR hmany j (L ++ [(i' : Int)]) q' x o.To (by simp; omega) (by simp; omega) g6 (by
        rw [List.length_append, List.length_singleton, show many - (L.length + 1) = many - L.length - 1 by omega]; exact g8) (path_app.2 ⟨v, hp, o, g5, g7, rfl⟩) (by
        rw [rtp_app, rtp, rtp, rtI, g5, Rat.mul_one, Rat.mul_assoc, g9]; exact ht) hls2
    refine ⟨p, iter_step (s' := (o.To, L ++ [(i' : Int)], q')) ?_ f1, f2⟩
    rw [show ((0 : Nat) : Int) = 0 from rfl] at g1
    rw [m_cocketref01_best_l2, decide_eq_true (by omega)]
    simp only [cond_true, Option.bind_some, g1]
theorem free_least {n : Int} {l : List Offer} (ho : ∀ o ∈ l, offerOk n o = true) (h : ∀ (k : Nat) (p : List Int), ¬ Gain l k p) {p : List Int} {v u : Int} (hp : Path l v p u) (hl : ∀ q, Path l v q u → rtp l p ≤ rtp l q → p.length ≤ q.length) : Free l false v [] v p := by
  refine Classical.byContradiction fun hf => ?_
  have hex : ∃ (a1 c b : List Int) (x : Int), p = a1 ++ c ++ b ∧ Path l v a1 x ∧ Path l x c x ∧ Path l x b u ∧ c ≠ [] := by
    refine Classical.byContradiction fun hne => hf ?_
    refine free_of p [] v u [] rfl (fun y hy => ?_) hp (fun a1 c b x e g1 g2 g3 => ?_)
    · simp at hy; subst hy; exact ⟨[], [], rfl, rfl, rfl⟩
    · left
      refine Classical.byContradiction fun hc => hne ⟨a1, c, b, x, by simpa using e, g1, g2, g3, hc⟩
  obtain ⟨a1, c, b, x, e, g1, g2, g3, hc⟩ := hex
  have hc0 : 0 < c.length := by
    rcases Nat.eq_zero_or_pos c.length with h | h
    · exact absurd (List.length_eq_zero_iff.1 h) hc
    · exact h
  have hle : rtp l c ≤ 1 := Rat.not_lt.1 fun hg => h c.length c ⟨x, g2, rfl, hg⟩
  have := hl (a1 ++ b) (path_app.2 ⟨x, g1, g3⟩) (by
    rw [e, rtp_app, rtp_app, Rat.mul_comm (rtp l a1), Rat.mul_assoc, ← rtp_app]
    exact rat_one_lt_mul hle (rtp_pos ho (a1 ++ b)))
  rw [e] at this
  simp at this
  omega
def IsBest (l : List Offer) (v u : Int) (r : Ratio) (w : List Int) : Prop :=
  Path l v w u ∧ rtp l w = toRat r ∧ ∀ p, Path l v p u → rtp l p ≤ toRat r ∧ (toRat r ≤ rtp l p → w.length < p.length ∨ (w.length = p.length ∧ cmpL w p ≤ 0))
theorem IsBest.uniq {l : List Offer} {v u : Int} {r r' : Ratio} {w w' : List Int} {m k : Int} (h : IsBest l v u r w) (h' : IsBest l v u r' w') (hr : RatOk r m) (hr' : RatOk r' k) : r = r' ∧ w = w' := by
  have h1 := (h.2.2 w' h'.1).1
  have h2 := (h'.2.2 w h.1).1
  rw [h'.2.1] at h1
  rw [h.2.1] at h2
  have he := Rat.le_antisymm h2 h1
  have h3 := (h.2.2 w' h'.1).2 (by rw [h'.2.1, he]; exact Rat.le_refl)
  have h4 := (h'.2.2 w h.1).2 (by rw [h.2.1, he]; exact Rat.le_refl)
  refine ⟨hr.inj hr' he, ?_⟩
  exact cmpL_anti (by omega) (by omega)
theorem refBest_eq {n : Int} {l : List Offer} (hm : MarketOk ⟨n, l⟩) (h : ∀ (k : Nat) (p : List Int), ¬ Gain l k p) {frm to : Int} (hf : 0 ≤ frm ∧ frm < n) (ht : 0 ≤ to ∧ to < n) :
    ∃ q w, m_cocketref01_best n l frm to = some (q, w, (bestS ⟨n, l⟩ frm to).2) ∧ ((bestS ⟨n, l⟩ frm to).2 = true → w = (bestS ⟨n, l⟩ frm to).1.list ∧ IsQ q (bestS ⟨n, l⟩ frm to).1.rate ∧ RatOk (bestS ⟨n, l⟩ frm to).1.rate 312500000 ∧ w.length ≤ 5) ∧
      ((bestS ⟨n, l⟩ frm to).2 = true → IsBest l frm to (bestS ⟨n, l⟩ frm to).1.rate (bestS ⟨n, l⟩ frm to).1.list) ∧ ((bestS ⟨n, l⟩ frm to).2 = false → ∀ p, ¬ Path l frm p to) := by
  have hn1 := hm.n1
  have hn2 := hm.n2
  dsimp only at hn1 hn2
  obtain ⟨R, r1, r2, r3⟩ := reaches_eq hm ht (most := (n - 1).toNat) (by omega)
  have en : ((n - 1).toNat : Int) = n - 1 := by omega
  rw [en] at r1
  have hR : ∀ i : Nat, i < n.toNat → ∃ r, idx R (i : Int) = some r ∧ RL n r (bestK l to i) := fun i hi => r3 i (by omega)
  obtain ⟨many, c, g, s1, s2, s3⟩ := refBest_l1 hm hf hR n.toNat 0 0 (⟨false, (⟨(⟨false, []⟩ : Big), (⟨false, []⟩ : Big)⟩ : Q)⟩ : Reach) none (by omega) (by omega) rfl (fun k hk => absurd hk (by omega))
  rw [show ((0 : Nat) : Int) = 0 from rfl] at s1
  -- what paths there are
  have hshort : ∀ p, Path l frm p to → ∃ q, Path l frm q to ∧ (q.length : Int) < n ∧ rtp l p ≤ rtp l q := fun p hp => by
    obtain ⟨q, q1, q2, q3, q4⟩ := shorten hm.good h p.length p frm to rfl hp
    have hlen := free_len (n := n) hm.good q [] frm to q1 q2 (by simp) (fun x hx => by simp at hx; omega) (by omega)
    simp at hlen
    exact ⟨q, q1, by omega, q4⟩
  cases g with
  | none =>
    have hIs : c.Is = false := s2
    have hno : ∀ p, ¬ Path l frm p to := fun p hp => by
      obtain ⟨q, q1, q2, _⟩ := hshort p hp
      obtain ⟨x, x1, _⟩ := bestK_most hm.good to q frm q1
      rw [s3 q.length (by omega)] at x1; cases x1
    have hne : frm ≠ to := fun e => hno [] e
    have hfl : (bestS ⟨n, l⟩ frm to).2 = false := by
      rcases Bool.eq_false_or_eq_true (bestS ⟨n, l⟩ frm to).2 with hb | hb
      · obtain ⟨_, ⟨p, p1, _⟩, _⟩ := (best_rate hm h hf hne).1 hb
        exact absurd p1 (hno p)
      · exact hb
    refine ⟨(⟨(⟨false, []⟩ : Big), (⟨false, []⟩ : Big)⟩ : Q), [], ?_, fun hb => (by rw [hfl] at hb; cases hb), fun hb => (by rw [hfl] at hb; cases hb), fun _ => hno⟩
    rw [m_cocketref01_best, wrap_i64_eq (by omega), r1]
    simp only [Option.bind_some, s1, hIs, Bool.not_false, cond_true, hfl]
  | some r =>
    obtain ⟨hIs, hQ⟩ : c.Is = true ∧ IsQ c.Rate r := s2
    obtain ⟨t1, t2, t3⟩ := s3
    have hr5 := bestK_ok5 hm (by omega) t2
    obtain ⟨w, w1, w2, w3, w4, w5⟩ := refBest_l2 hm hR (frm := frm) (many := many) (by omega) (t := toRat r) many [] c.Rate r frm (by simp) (by simp) hQ (by simpa using t2) rfl (by rw [rtp, Rat.one_mul]) (fun p' _ _ _ => .inl rfl)
    have hmax : ∀ p, Path l frm p to → rtp l p ≤ toRat r := fun p hp => by
      obtain ⟨q, q1, q2, q3⟩ := hshort p hp
      obtain ⟨x, x1, x2⟩ := bestK_most hm.good to q frm q1
      exact Rat.le_trans q3 (Rat.le_trans x2 (t3 q.length (by omega) x x1).1)
    have hlst : ∀ p, Path l frm p to → toRat r ≤ rtp l p → many ≤ p.length := fun p hp hle => by
      rcases Nat.lt_or_ge p.length many with hlt | hge
      · obtain ⟨x, x1, x2⟩ := bestK_most hm.good to p frm hp
        have := (t3 p.length (by omega) x x1).2 hlt
        exact absurd (Rat.le_trans hle x2) (Rat.not_le.2 this)
      · exact hge
    have hgoal : (bestS ⟨n, l⟩ frm to).2 = true ∧ w = (bestS ⟨n, l⟩ frm to).1.list ∧ (bestS ⟨n, l⟩ frm to).1.rate = r := by
      by_cases hne : frm = to
      · subst hne
        have e : bestS ⟨n, l⟩ frm frm = (⟨[], ⟨1, 1⟩, 0⟩, true) := by rw [bestS, if_pos rfl]
        have hle := closed_le h w2
        have h11 := hmax [] rfl
        rw [w4] at hle
        rw [rtp] at h11
        have hr1 : toRat r = toRat ⟨1, 1⟩ := by rw [toRat_one]; exact Rat.le_antisymm hle h11
        have hm0 := hlst [] rfl (by rw [rtp]; exact hle)
        rw [e]
        refine ⟨rfl, ?_, (hr5.inj (m := 312500000) (k := 50 ^ 5) one_ok hr1).symm⟩
        cases w with
        | nil => rfl
        | cons a b => simp at w3 hm0; omega
      · have hbs := bestS_so hm (frm := frm) hne
        have htr : (bestS ⟨n, l⟩ frm to).2 = true := by
          rcases Bool.eq_false_or_eq_true (bestS ⟨n, l⟩ frm to).2 with hb | hb
          · exact hb
          · exact absurd w2 ((best_rate hm h hf hne).2 hb w)
        obtain ⟨u1, u2, u3⟩ := hbs.2 htr
        obtain ⟨v1, v2, v3, v4, v5⟩ := allW_sound hm frm _ u1
        rw [u2] at v1
        have hfree := free_least hm.good h w2 (fun q hq hle => by rw [w3]; exact hlst q hq (by rw [← w4]; exact hle))
        obtain ⟨y, y1, y2, y3⟩ := allW_all hm hf w2 hfree hne
        obtain ⟨z1, z2, z3, z4, z5⟩ := allW_sound hm frm y y1
        rw [y2, w4] at z3
        have h6 := (u3 y y1 y3)
        have hrate : toRat (bestS ⟨n, l⟩ frm to).1.rate = toRat r := by
          refine Rat.le_antisymm ?_ ?_
          · rw [v3]; exact hmax _ v1
          · rw [← z3]; exact h6.1
        have hord := h6.2 (by rw [z3, hrate])
        have hlen := hlst _ v1 (by rw [← v3, hrate]; exact Rat.le_refl)
        have hle1 : (bestS ⟨n, l⟩ frm to).1.list.length = many ∧ cmpL (bestS ⟨n, l⟩ frm to).1.list w ≤ 0 := by
          rcases hord with ho | ⟨ho1, ho2⟩
          · rw [y2, w3] at ho
            omega
          · rw [y2] at ho1 ho2
            exact ⟨by omega, ho2⟩
        have hle2 := w5 _ v1 hle1.1 (by rw [← v3, hrate])
        exact ⟨htr, (cmpL_anti hle1.2 hle2).symm, v2.inj hr5 hrate⟩
    obtain ⟨h1, h2, h3⟩ := hgoal
    refine ⟨c.Rate, w, ?_, fun _ => ⟨h2, by rw [h3]; exact hQ, by rw [h3]; exact hr5, by omega⟩, fun _ => ?_, fun hb => by rw [h1] at hb; cases hb⟩
    · rw [m_cocketref01_best, wrap_i64_eq (by omega), r1]
      simp only [Option.bind_some, s1, hIs, Bool.not_true, cond_false, h1, w1]
    · rw [← h2, h3]
      refine ⟨w2, w4, fun p hp => ⟨hmax p hp, fun hle => ?_⟩⟩
      have := hlst p hp hle
      rcases Nat.lt_or_ge w.length p.length with hlt | hge
      · exact .inl hlt
      · exact .inr ⟨by omega, w5 p hp (by omega) (Rat.le_antisymm (hmax p hp) hle)⟩
end Go.Pv

set_option linter.unusedSimpArgs false
set_option linter.unusedVariables false
namespace Go.Pv
def BestOk (r : Ratio × List Int × Int) : Prop := r.2.1.length ≤ 5 ∧ (r.2.2 = 0 → RatOk r.1 312500000)
theorem Best_same (n : Int) (l : List Offer) (frm to : Int) : ∃ r, m_rate_Best n l frm to = some r ∧ m_cocketref01_Best n l frm to = some r ∧ BestOk r := by
  rw [Best_eq, m_cocketref01_Best, Good_eq]
  by_cases h0 : ofCode n l = 0
  · have hm := MarketOk.of h0
    rw [if_pos h0]
    simp only [Option.bind_some, decide_eq_false (show ¬ ¬ ofCode n l = 0 from fun h => h h0), cond_false]
    by_cases hc : 0 ≤ frm ∧ frm < n ∧ 0 ≤ to ∧ to < n
    · have d1 : decide (frm < 0) = false := by simp; omega
      have d2 : decide (n ≤ frm) = false := by simp; omega
      have d3 : decide (to < 0) = false := by simp; omega
      have d4 : decide (n ≤ to) = false := by simp; omega
      obtain ⟨b, h1, h2, h3, h4⟩ := roundS_eq hm
      rw [if_pos hc]
      simp only [d1, d2, d3, d4, Bool.or_self, cond_false, h1, Option.bind_some, h2]
      rcases Bool.eq_false_or_eq_true (roundS ⟨n, l⟩).isEmpty with he | he
      · have hg := no_gain hm (h4 he)
        obtain ⟨q, w, f1, f2, _⟩ := refBest_eq hm hg ⟨hc.1, hc.2.1⟩ hc.2.2
        simp only [he, if_true, Bool.not_true, cond_false, f1, Option.bind_some]
        rcases Bool.eq_false_or_eq_true (bestS ⟨n, l⟩ frm to).2 with hb | hb
        · obtain ⟨g1, g2, g3, g4⟩ := f2 hb
          rw [ToRatio_eq g2 g3 (by decide) (by decide)]
          subst g1
          exact ⟨((bestS ⟨n, l⟩ frm to).1.rate, (bestS ⟨n, l⟩ frm to).1.list, 0), by simp [hb], by simp [hb], g4, fun _ => g3⟩
        · exact ⟨(⟨0, 0⟩, [], 10), by simp [hb], by simp [hb], by simp [BestOk]⟩
      · exact ⟨(⟨0, 0⟩, [], 11), by simp [he], by simp [he], by simp [BestOk]⟩
    · have d : (decide (frm < 0) || decide (n ≤ frm) || decide (to < 0) || decide (n ≤ to)) = true := by
        simp only [Bool.or_eq_true, decide_eq_true_eq]; omega
      rw [if_neg hc, d]
      exact ⟨_, rfl, rfl, by simp [BestOk]⟩
  · rw [if_neg h0]
    simp only [Option.bind_some, decide_eq_true (show ¬ ofCode n l = 0 from h0), cond_true]
    exact ⟨_, rfl, rfl, by simp [BestOk], fun h => absurd h h0⟩
end Go.Pv

namespace Go.Pv.Tryd
open Go.Proofs Go.Pv
theorem m_cocketlaw01_few_ok (l1 : (List Offer)) (r : Bool) (h : m_cocketlaw01_few l1 = some r) : PureFn Tryd.prog G 17 [.d (.imm 4 (lenc Offer.pd l1))] (.d (.bool r)) := by
 unfold m_cocketlaw01_few at h
 refine pf Tryd.func17 Tryd.ntmps17 ?_
 refine sg fun K k => ?_
 refine oo ?_
 refine AOps.nil (k _ ?_)
 refine sg fun K k => ?_
 iterate 4 refine oo ?_
 refine AOps.nil (k _ ?_)
 refine AWp.ret ?_
 cases h; exact rt
end Go.Pv.Tryd

namespace Go.Pv.Tryd
open Go.Proofs Go.Pv
theorem m_cocketlaw01_ring_ok (r : (List Offer)) (h : m_cocketlaw01_ring = some r) : RowFn Tryd.prog G 48 [] 43 4 (lenc Offer.pd r) := by
 unfold m_cocketlaw01_ring at h
 refine Fn.pf Tryd.func48 Tryd.ntmps48 ?_
 refine sg fun K k => ?_
 refine oo ?_
 refine AOps.nil (k _ ?_)
 refine sg fun K k => ?_
 iterate 5 refine oo ?_
 refine AOps.nil (k _ ?_)
 refine AWp.ret ?_
 cases h; exact rtRow (hn := by rw [lenc_length] <;> rfl)
end Go.Pv.Tryd

namespace Go.Pv.Tryd
open Go.Proofs Go.Pv
theorem m_rate_market_has_ok (m1 : Market) (c1 : Int) (r : Bool) (h : m_rate_market_has m1 c1 = some r) : PureFn Tryd.prog G 53 [.d (.agg [(.int .i64 m1.n), (.imm 4 (lenc Offer.pd m1.offers))]), .d (.int .i64 c1)] (.d (.bool r)) := by
 unfold m_rate_market_has at h
 refine pf Tryd.func53 Tryd.ntmps53 ?_
 refine sg fun K k => ?_
 iterate 2 refine oo ?_
 refine AOps.nil (k _ ?_)
 refine sg fun K k => ?_
 iterate 3 refine oo ?_
 refine ct 5 [] [] (fun  t => (12, .d (.bool ((decide (0 ≤ c1)) && (decide (c1 < m1.n))))) :: t) ?_ ?_
 ·rcases bt (decide (0 ≤ c1)) with hg_2 | hg_2
  ·rw [hg_2]
   iterate 5 refine oo ?_
   refine AOps.nil ?_
   exact sb
  ·rw [hg_2]
   iterate 5 refine oo ?_
   refine AOps.nil ?_
   exact sb
 refine oo ?_
 refine AOps.nil (k _ ?_)
 refine AWp.ret ?_
 cases h; exact rt
end Go.Pv.Tryd

namespace Go.Pv.Tryd
open Go.Proofs Go.Pv
theorem m_rate_of_1_ok (v1 : Int) (r : Bool) (h : m_rate_of_1 v1 = some r) : PureFn Tryd.prog G 79 [.d (.int .i64 v1)] (.d (.bool r)) := by
 unfold m_rate_of_1 at h
 refine pf Tryd.func79 Tryd.ntmps79 ?_
 refine sg fun K k => ?_
 refine oo ?_
 refine AOps.nil (k _ ?_)
 refine sg fun K k => ?_
 iterate 3 refine oo ?_
 refine ct 3 [] [] (fun  t => (8, .d (.bool ((decide (1 ≤ v1)) && (decide (v1 ≤ 50))))) :: t) ?_ ?_
 ·rcases bt (decide (1 ≤ v1)) with hg_2 | hg_2
  ·rw [hg_2]
   iterate 3 refine oo ?_
   refine AOps.nil ?_
   exact sb
  ·rw [hg_2]
   iterate 3 refine oo ?_
   refine AOps.nil ?_
   exact sb
 refine oo ?_
 refine AOps.nil (k _ ?_)
 refine AWp.ret ?_
 cases h; exact rt
end Go.Pv.Tryd

namespace Go.Pv.Tryd
open Go.Proofs Go.Pv
set_option maxHeartbeats 4000000 in
theorem m_rate_of_ok (n1 : Int) (offers1 : (List Offer)) (r : (Market × Int)) (h : m_rate_of n1 offers1 = some r) : PureFn Tryd.prog G 52 [.d (.int .i64 n1), .d (.imm 4 (lenc Offer.pd offers1))] (.tuple [.d (.agg [(.int .i64 r.1.n), (.imm 4 (lenc Offer.pd r.1.offers))]), .d (.int .i64 r.2)]) := by
 unfold m_rate_of at h
 refine pf Tryd.func52 Tryd.ntmps52 ?_
 refine sg fun K k => ?_
 iterate 2 refine oo ?_
 refine AOps.nil (k _ ?_)
 refine AWp.seq fun _ K_1 => ?_
 refine AWp.block ?_
 refine sg fun K k => ?_
 iterate 3 refine oo ?_
 refine ct 3 [0, 1, 4] [1000] (fun  t => (16, .d (.bool ((decide (n1 < 2)) || (decide (6 < n1))))) :: t) ?_ ?_
 ·rcases bt (decide (n1 < 2)) with hg_3 | hg_3
  ·rw [hg_3]
   iterate 3 refine oo ?_
   refine AOps.nil ?_
   exact sb
  ·rw [hg_3]
   iterate 3 refine oo ?_
   refine AOps.nil ?_
   exact sb
 refine oo ?_
 refine AOps.nil (k _ ?_)
 refine cd h (fun h => ?_) (fun h => ?_)
 ·refine sg fun K k => ?_
  iterate 3 refine oo ?_
  refine AOps.nil (k _ ?_)
  refine AWp.ret ?_
  cases h; exact rt
 ·refine sg fun K k => ?_
  iterate 4 refine oo ?_
  refine AOps.nil (k _ ?_)
  refine cd h (fun h => ?_) (fun h => ?_)
  ·refine sg fun K k => ?_
   iterate 3 refine oo ?_
   refine AOps.nil (k _ ?_)
   refine AWp.ret ?_
   cases h; exact rt
  ·refine AWp.skip ?_
   refine K_1 _ ?_
   refine sg fun K k => ?_
   iterate 5 refine oo ?_
   refine AOps.nil (k _ ?_)
   refine sg fun K k => ?_
   refine oo ?_
   refine AOps.nil (k _ ?_)
   refine jm (ι := Market) [6] [1001] (fun i t => (4, .ptr 1000 0 0) :: t) (fun i t => (1000, ⟨77, 2, [.d (.agg [(.int .i64 i.n), (.imm 4 (lenc Offer.pd i.offers))])]⟩) :: t) .inl h ?_ ?_
   ·intro _ hj_7 h
    refine sg fun K k => ?_
    iterate 3 refine oo ?_
    refine AOps.nil (k _ ?_)
    refine AWp.block ?_
    obtain ⟨x_12, hl_9, h2_10⟩ := bind_some hj_7
    refine lp (S := (Int × Market)) [6, 7, 26, 27] [1001] (fun i t => (4, .ptr 1000 0 0) :: (28, .d (.int .i64 i.1)) :: t) (fun i t => (1000, ⟨77, 2, [.d (.agg [(.int .i64 i.2.n), (.imm 4 (lenc Offer.pd i.2.offers))])]⟩) :: t) hl_9 ?_ ?_; exact sch; clear hl_9
    rintro ⟨v1, c2⟩ _ hb_11; unfold m_rate_of_l1 at hb_11; try dsimp only at hb_11
    try dsimp only
    refine sg fun K k => ?_
    refine oo ?_
    refine AOps.nil (k _ ?_)
    refine AWp.seq fun _ K_14 => ?_
    refine cd hb_11 (fun hb_11 => ?_) (fun hb_11 => ?_)
    ·refine AWp.skip ?_
     refine K_14 _ ?_
     refine AWp.seq fun _ K_16 => ?_
     refine AWp.block ?_
     refine sg fun K k => ?_
     obtain ⟨e1, ⟨f_17, f_18, f_19, f_20⟩, hb_11⟩ := idx_bind hb_11
     refine oo ?_
     refine oo ?_ (by intro K k; simp (disch := omega) only [go_sem, f_19, ↓reduceIte]; exact k)
     iterate 2 refine oo ?_
     refine AOps.nil (k _ ?_)
     refine sg fun K k => ?_
     iterate 3 refine oo ?_
     obtain ⟨r1, hx_21, hb_11⟩ := bind_some hb_11
     refine cl (m_rate_market_has_ok (⟨n1, offers1⟩ : Market) e1.From _ hx_21) ?_
     iterate 2 refine oo ?_
     obtain ⟨b1, hc_22, hb_11⟩ := bind_some hb_11
     refine ct 6 [4, 6, 7, 9, 26, 27, 28] [1000, 1001, 1002] (fun  t => (43, .d (.bool b1)) :: t) ?_ ?_
     ·rcases bt (!r1) with hg_24 | hg_24
      ·rw [hg_24]
       rw [hg_24, cond_true] at hc_22
       iterate 6 refine oo ?_
       refine AOps.nil ?_
       cases hc_22
       exact sb
      ·rw [hg_24]
       rw [hg_24, cond_false] at hc_22
       iterate 3 refine oo ?_
       obtain ⟨r2, hx_23, hc_22⟩ := bind_some hc_22
       refine cl (m_rate_market_has_ok (⟨n1, offers1⟩ : Market) e1.To _ hx_23) ?_
       iterate 2 refine oo ?_
       refine AOps.nil ?_
       cases hc_22
       exact sb
     refine oo ?_
     refine ct 6 [4, 6, 7, 9, 26, 27, 28] [1000, 1001, 1002] (fun  t => (50, .d (.bool (b1 || (decide (e1.From = e1.To))))) :: t) ?_ ?_
     ·rcases bt b1 with hg_26 | hg_26
      ·rw [hg_26]
       iterate 6 refine oo ?_
       refine AOps.nil ?_
       exact sb
      ·rw [hg_26]
       iterate 6 refine oo ?_
       refine AOps.nil ?_
       exact sb
     refine oo ?_
     obtain ⟨b2, hc_27, hb_11⟩ := bind_some hb_11
     refine ct 6 [4, 6, 7, 9, 26, 27, 28] [1000, 1001, 1002] (fun  t => (57, .d (.bool b2)) :: t) ?_ ?_
     ·rcases bt (b1 || (decide (e1.From = e1.To))) with hg_29 | hg_29
      ·rw [hg_29]
       rw [hg_29, cond_true] at hc_27
       iterate 6 refine oo ?_
       refine AOps.nil ?_
       cases hc_27
       exact sb
      ·rw [hg_29]
       rw [hg_29, cond_false] at hc_27
       iterate 3 refine oo ?_
       obtain ⟨r3, hx_28, hc_27⟩ := bind_some hc_27
       refine clV (m_rate_of_1_ok e1.Num _ hx_28) ?_
       iterate 2 refine oo ?_
       refine AOps.nil ?_
       cases hc_27
       exact sb
     refine oo ?_
     obtain ⟨b3, hc_30, hb_11⟩ := bind_some hb_11
     refine ct 6 [4, 6, 7, 26, 27, 28] [1000, 1001] (fun  t => (64, .d (.bool b3)) :: t) ?_ ?_
     ·rcases bt b2 with hg_32 | hg_32
      ·rw [hg_32]
       rw [hg_32, cond_true] at hc_30
       iterate 6 refine oo ?_
       refine AOps.nil ?_
       cases hc_30
       exact sb
      ·rw [hg_32]
       rw [hg_32, cond_false] at hc_30
       iterate 3 refine oo ?_
       obtain ⟨r4, hx_31, hc_30⟩ := bind_some hc_30
       refine clV (m_rate_of_1_ok e1.Den _ hx_31) ?_
       iterate 2 refine oo ?_
       refine AOps.nil ?_
       cases hc_30
       exact sb
     refine AOps.nil (k _ ?_)
     refine cd hb_11 (fun hb_11 => ?_) (fun hb_11 => ?_)
     ·refine sg fun K k => ?_
      iterate 3 refine oo ?_
      refine AOps.nil (k _ ?_)
      refine AWp.ret ?_
      refine lx hb_11 fun hx => ?_; cases hx; try dsimp only at h2_10
      cases h2_10; try dsimp only at h
      cases h; exact rt
     ·refine AWp.skip ?_
      refine K_16 _ ?_
      refine AWp.reg ?_
      iterate 2 refine oo ?_
      refine AOps.nil ?_
      exact ln hb_11 sb
    ·refine AWp.exit ?_
     refine lx hb_11 fun hx => ?_; cases hx; try dsimp only at h2_10
     exact ln h2_10 sb
   ·rintro c1 h; dsimp only at h ⊢
    refine sg fun K k => ?_
    iterate 3 refine oo ?_
    refine AOps.nil (k _ ?_)
    refine AWp.ret ?_
    cases h; exact rt
end Go.Pv.Tryd

namespace Go.Pv.Tryd
open Go.Proofs Go.Pv
theorem m_rate_gcd_ok (a1 : Int) (b1 : Int) (r : Int) (h : m_rate_gcd a1 b1 = some r) : PureFn Tryd.prog G 67 [.d (.int .i64 a1), .d (.int .i64 b1)] (.d (.int .i64 r)) := by
 unfold m_rate_gcd at h
 refine pf Tryd.func67 Tryd.ntmps67 ?_
 refine sg fun K k => ?_
 refine oo ?_
 refine AOps.nil (k _ ?_)
 refine jn (α := Int) [] [] (fun i t => (0, .d (.int .i64 i)) :: t) (fun i t => t) h ?_ ?_
 ·intro _ hj_2
  refine AWp.block ?_
  obtain ⟨x_7, hl_4, h2_5⟩ := bind_some hj_2
  refine lp (S := (Int × Int)) [] [] (fun i t => (0, .d (.int .i64 i.1)) :: (1, .d (.int .i64 i.2)) :: t) (fun i t => t) hl_4 ?_ ?_; exact sb; clear hl_4
  rintro ⟨a3, b2⟩ _ hb_6; unfold m_rate_gcd_l1 at hb_6; try dsimp only at hb_6
  try dsimp only
  refine AWp.seq fun _ K_9 => ?_
  refine sg fun K k => ?_
  iterate 2 refine oo ?_
  refine AOps.nil (k _ ?_)
  refine cd hb_6 (fun hb_6 => ?_) (fun hb_6 => ?_)
  ·refine AWp.skip ?_
   refine K_9 _ ?_
   refine AWp.block ?_
   refine AWp.draw mo [] trivial ?_
   obtain ⟨hg_11, hb_6⟩ := guardO_some hb_6
   iterate 6 refine dd ?_
   refine DOps.nil (by kernel_rfl) ?_
   exact ln hb_6 sb
  ·refine AWp.exit ?_
   refine lx hb_6 fun hx => ?_; cases hx; try dsimp only at h2_5
   cases h2_5; exact sb
 ·rintro a2 h; dsimp only at h ⊢
  refine sg fun K k => ?_
  iterate 2 refine oo ?_
  refine AOps.nil (k _ ?_)
  refine AWp.ret ?_
  cases h; exact rt
end Go.Pv.Tryd

namespace Go.Pv.Tryd
open Go.Proofs Go.Pv
theorem m_rate_ratio_ok (a1 : Int) (b1 : Int) (r : Ratio) (h : m_rate_ratio a1 b1 = some r) : PureFn Tryd.prog G 62 [.d (.int .i64 a1), .d (.int .i64 b1)] (.d (.agg [(.int .i64 r.Num), (.int .i64 r.Den)])) := by
 unfold m_rate_ratio at h
 refine pf Tryd.func62 Tryd.ntmps62 ?_
 refine sg fun K k => ?_
 refine oo ?_
 refine AOps.nil (k _ ?_)
 refine sg fun K k => ?_
 iterate 2 refine oo ?_
 obtain ⟨r1, hx_1, h⟩ := bind_some h
 refine cl (m_rate_gcd_ok a1 b1 _ hx_1) ?_
 refine oo ?_
 refine AOps.nil (k _ ?_)
 refine sd mo fun K k => ?_
 obtain ⟨hg_2, h⟩ := guardO_some h
 obtain ⟨hg_3, h⟩ := guardO_some h
 iterate 8 refine dd ?_
 refine DOps.nil (by kernel_rfl) (k _ ?_)
 refine AWp.ret ?_
 cases h; exact rt
end Go.Pv.Tryd

namespace Go.Pv.Tryd
open Go.Proofs Go.Pv
theorem m_rate_times_ok (a1 : Ratio) (b1 : Ratio) (r : Ratio) (h : m_rate_times a1 b1 = some r) : PureFn Tryd.prog G 59 [.d (.agg [(.int .i64 a1.Num), (.int .i64 a1.Den)]), .d (.agg [(.int .i64 b1.Num), (.int .i64 b1.Den)])] (.d (.agg [(.int .i64 r.Num), (.int .i64 r.Den)])) := by
 unfold m_rate_times at h
 refine pf Tryd.func59 Tryd.ntmps59 ?_
 refine sg fun K k => ?_
 iterate 3 refine oo ?_
 refine AOps.nil (k _ ?_)
 refine sd mo fun K k => ?_
 iterate 4 refine dd ?_
 obtain ⟨r1, hx_1, h⟩ := bind_some h
 refine dcl (m_rate_gcd_ok a1.Num b1.Den _ hx_1) ?_
 iterate 4 refine dd ?_
 obtain ⟨r2, hx_2, h⟩ := bind_some h
 refine dcl (m_rate_gcd_ok b1.Num a1.Den _ hx_2) ?_
 iterate 2 refine dd ?_
 refine DOps.nil (by kernel_rfl) (k _ ?_)
 refine sd mo fun K k => ?_
 obtain ⟨hg_3, h⟩ := guardO_some h
 obtain ⟨hg_4, h⟩ := guardO_some h
 obtain ⟨hg_5, h⟩ := guardO_some h
 obtain ⟨hg_6, h⟩ := guardO_some h
 iterate 20 refine dd ?_
 refine DOps.nil (by kernel_rfl) (k _ ?_)
 refine AWp.ret ?_
 cases h; exact rt
end Go.Pv.Tryd



set_option linter.unusedSimpArgs false
set_option linter.unusedVariables false
namespace Go.Pv.Tryd
open Go.Proofs Go.Pv
theorem clone_fn (l : List Int) (hl : l.length ≤ 1000) : RowFn Tryd.prog G 96 [.d (lstD 1 (lenc (PD.int .i64) l))] 3 1 (lenc (PD.int .i64) l) := by
  refine Fn.intro Tryd.func96 (by rfl) (by rw [Tryd.ntmps96]; simp) ?_
  rw [Tryd.ntmps96]
  simp only [argEnv, ↓reduceIte]
  refine AWp.seq fun K hK => AWp.reg ?_
  iterate 1 (refine AOps.consU fun K' hK' => ?_; simp (disch := omega) only [go_sem, ↓reduceIte]; refine hK' _ ?_; clear hK' K')
  refine AOps.nil ?_
  simp only [Post.then]
  refine hK _ ?_; clear hK K
  refine AWp.seq fun K hK => ?_
  refine AWp.seq fun K2 hK2 => AWp.reg ?_
  iterate 2 (refine AOps.consU fun K' hK' => ?_; simp (disch := omega) only [go_sem, ↓reduceIte]; refine hK' _ ?_; clear hK' K')
  refine AOps.nil ?_
  simp only [Post.then]
  refine hK2 _ ?_; clear hK2 K2
  refine AWp.cond (b := l.isEmpty) (by rfl) (fun hb => ?_) (fun hb => ?_)
  · have hl0 : l = [] := by simpa using hb
    subst hl0
    refine AWp.seq fun K2 hK2 => AWp.reg ?_
    iterate 1 (refine AOps.consU fun K' hK' => ?_; simp (disch := omega) only [go_sem, ↓reduceIte]; refine hK' _ ?_; clear hK' K')
    refine AOps.nil ?_
    simp only [Post.then]
    refine hK2 _ ?_; clear hK2 K2
    refine AWp.sub (Sub.void 2 3 1 1000 (by rfl) (by rfl) (by omega) (by omega)) ?_
    refine AWp.ret ?_
    simp only [Post.then, Post.inBlock, Go.Pv.Fin, Go.Pv.FinG]
    refine ⟨.slc 1000 0 0, ?_, by first | exact True.intro | rfl, by first | exact True.intro | rfl, by first | exact True.intro | rfl⟩
    simp only [go_sem, Tryd.results96, ↓reduceIte]
  · refine AWp.skip ?_
    simp only [Post.then, Post.inBlock]
    refine hK _ ?_; clear hK K
    refine AWp.seq fun K hK => AWp.reg ?_
    refine AOps.consU fun K' hK' => ?_; simp (disch := omega) only [go_sem, ↓reduceIte]; refine hK' _ ?_; clear hK' K'
    refine AOps.consU fun K' hK' => ?_; simp (disch := omega) only [go_sem, ↓reduceIte]; refine hK' _ ?_; clear hK' K'
    have e : lstD 1 (lenc (PD.int .i64) l) = .imm 1 (lenc (PD.int .i64) l) := by
      cases l with
      | nil => simp at hb
      | cons x l => rfl
    rw [e]
    iterate 2 (refine AOps.consU fun K' hK' => ?_; simp (disch := omega) only [go_sem, ↓reduceIte]; refine hK' _ ?_; clear hK' K')
    refine AOps.nil ?_
    simp only [Post.then]
    refine hK _ ?_; clear hK K
    refine AWp.ret ?_
    simp only [Post.then, Post.inBlock, Go.Pv.Fin, Go.Pv.FinG]
    refine ⟨.slc 1000 0 l.length, ?_, by first | exact True.intro | rfl, ?_, by first | exact True.intro | rfl⟩
    · simp only [go_sem, Tryd.results96, ↓reduceIte]
    · rw [lenc_length]
def capsOn (m : Market) (frm length : Int) (rounds : Bool) : List PV := [.dptr 1 [.int .i64 length] 0 0, .dptr 1 [.int .i64 frm] 0 0, .dptr 1 [.bool rounds] 0 0, .ptr 1 0 0, .ptr 2 0 0, .dptr 2 [Market.pd m] 0 0, .ptr 4 0 0]
def heapOn (m : Market) (frm length : Int) (rounds : Bool) (l n : Nat) (s : List Bool) : Heap :=
  [(1, ⟨127, 1, [.d (.fn (.yield l))]⟩), (2, ⟨128, 1, [.slc 3 0 n]⟩), (3, ⟨4, 1, dl (lenc PD.bool s)⟩), (4, ⟨127, 1, [.func (.func 94) (capsOn m frm length rounds)]⟩)]
theorem reset_fn (n : Nat) (s : List Bool) (w : Walk) (g : Gh) (hg : g.isSome = true) (hn : s.length = n) (h0 : 0 ≤ w.to ∧ w.to < n) :
    FnD Tryd.prog G 95 [.ptr 1 0 0, .ptr 2 0 0] [(1, ⟨128, 1, [.slc 3 0 n]⟩), (3, ⟨4, 1, dl (lenc PD.bool s)⟩), (2, ⟨83, 4, [.d w.pd]⟩)] g
      fun _ H' g' => H' = [(1, ⟨128, 1, [.slc 3 0 n]⟩), (3, ⟨4, 1, dl (lenc PD.bool (s.set w.to.toNat false))⟩), (2, ⟨83, 4, [.d w.pd]⟩)] ∧ g' = g := by
  refine FnD.intro Tryd.func95 (by rfl) (by rw [Tryd.ntmps95]; simp) ?_
  rw [Tryd.ntmps95]
  simp only [argEnv, ↓reduceIte, Nat.reduceAdd]
  have h1 : w.to.toNat < s.length := by omega
  have h2 : s[w.to.toNat]? = some s[w.to.toNat] := List.getElem?_eq_getElem h1
  refine AWp.reg ?_
  iterate 5 (refine AOps.consU fun K' hK' => ?_; simp (disch := omega) only [go_sem, h2, ↓reduceIte]; refine hK' _ ?_; clear hK' K')
  refine AOps.nil ?_
  show FinD _ _ _ _ _ _
  simp only [FinD]
  refine ⟨.tuple [], ?_, by first | exact True.intro | rfl, hg, by first | exact True.intro | rfl, by first | exact True.intro | rfl⟩
  simp only [go_sem, Tryd.results95, ↓reduceIte]
end Go.Pv.Tryd

set_option linter.unusedSimpArgs false
set_option linter.unusedVariables false
namespace Go.Pv.Tryd
open Go.Proofs Go.Pv
def OnPost (ys : List PD) (H : Heap) (l : Nat) (all xs : List PD) : PV → Heap → Gh → Prop := fun p H' g' =>
  H' = H ∧ ((p = .d (.bool true) ∧ g' = some (l, all, xs ++ ys, true)) ∨ ∃ part rest, ys = part ++ rest ∧ p = .d (.bool false) ∧ g' = some (l, all, xs ++ part, false))
def OnPost0 (ys : List PD) (H : Heap) (l : Nat) (all xs : List PD) : PV → Heap → Gh → Prop := fun p H' g' =>
  heapLe H H' ∧ ((p = .d (.bool true) ∧ g' = some (l, all, xs ++ ys, true)) ∨ ∃ part rest, ys = part ++ rest ∧ p = .d (.bool false) ∧ g' = some (l, all, xs ++ part, false))
theorem heapOn_refs (m : Market) (frm length : Int) (rounds : Bool) (l n : Nat) (s : List Bool) : heapRefs (heapOn m frm length rounds l n s) (heapOn m frm length rounds l n s) := by
  simp only [heapOn, capsOn, go_sem, ↓reduceIte]
theorem on_less {f : FuncId} {args : List PV} {g : Gh} {m : Market} {frm length : Int} {rounds : Bool} {l n : Nat} {s : List Bool} {all xs ys : List PD} {H0 : Heap} (h : FnG Tryd.prog G f args H0 g (OnPost0 ys (heapOn m frm length rounds l n s) l all xs)) :
    FnG Tryd.prog G f args H0 g (OnPost ys (heapOn m frm length rounds l n s) l all xs) := by
  refine h.less fun p H' g' h => ⟨_, h.1, heapOn_refs .., ?_, rfl, h.2⟩
  rcases h.2 with ⟨rfl, _⟩ | ⟨_, _, _, rfl, _⟩ <;> exact trivial
structure OnOk (m : Market) (length : Int) (w : Walk) (s : List Bool) (k : Nat) : Prop where
  k1 : w.list.length + k = length.toNat + 1
  k2 : 1 ≤ k
  len : s.length = m.n.toNat
  to1 : 0 ≤ w.to
  to2 : w.to < m.n
  num1 : 1 ≤ w.rate.Num
  num2 : w.rate.Num ≤ 50 ^ w.list.length
  den1 : 1 ≤ w.rate.Den
  den2 : w.rate.Den ≤ 50 ^ w.list.length
  free : s[w.to.toNat]? = some false ∨ (w.list.length : Int) = length
theorem on_end (m : Market) (frm length : Int) (rounds : Bool) (l : Nat) (all : List PD) (k : Nat) (w : Walk) (s : List Bool) (xs : List PD) (hk : OnOk m length w s (k + 1)) (he : (w.list.length : Int) = length)
    (hall : xs ++ lenc Walk.pd (walkOn m.offers frm length rounds (k + 1) w s) <+: all) :
    FnG Tryd.prog G 94 (.d w.pd :: capsOn m frm length rounds) (heapOn m frm length rounds l m.n.toNat s) (some (l, all, xs, true)) (OnPost (lenc Walk.pd (walkOn m.offers frm length rounds (k + 1) w s)) (heapOn m frm length rounds l m.n.toNat s) l all xs) := by
  have hw : walkOn m.offers frm length rounds (k + 1) w s = if (!(decide (w.to = frm) == rounds)) = true then [] else [w] := by rw [walkOn, if_pos he]
  rw [hw] at hall ⊢
  rcases Bool.eq_false_or_eq_true (!(decide (w.to = frm) == rounds)) with hg | hg
  · rw [if_pos hg] at hall ⊢
    refine on_less ?_
    refine FnG.introD Tryd.func94 (by rfl) (by rw [Tryd.ntmps94]; simp [capsOn]) ?_
    rw [Tryd.ntmps94]
    simp only [argEnv, capsOn, heapOn, Nat.reduceAdd]
    refine AWp.seq fun K hK => AWp.reg ?_
    iterate 2 (refine AOps.consU fun K' hK' => ?_; simp (disch := omega) only [go_sem, ↓reduceIte]; refine hK' _ ?_; clear hK' K')
    refine AOps.nil ?_
    simp only [Post.then]
    refine hK _ ?_; clear hK K
    refine AWp.seq fun K hK => ?_
    refine AWp.seq fun K2 hK2 => AWp.reg ?_
    iterate 5 (refine AOps.consU fun K' hK' => ?_; simp (disch := omega) only [go_sem, ↓reduceIte]; refine hK' _ ?_; clear hK' K')
    refine AOps.nil ?_
    simp only [Post.then]
    refine hK2 _ ?_; clear hK2 K2
    refine AWp.cond (b := decide ((w.list.length : Int) = length)) (by rfl) (fun hb => ?_) (fun hb => ?_)
    · refine AWp.seq fun K2 hK2 => AWp.reg ?_
      iterate 7 (refine AOps.consU fun K' hK' => ?_; simp (disch := omega) only [go_sem, ↓reduceIte]; refine hK' _ ?_; clear hK' K')
      rw [hg]
      iterate 5 (refine AOps.consU fun K' hK' => ?_; simp (disch := omega) only [go_sem, ↓reduceIte]; refine hK' _ ?_; clear hK' K')
      refine AOps.nil ?_
      simp only [Post.then]
      refine hK2 _ ?_; clear hK2 K2
      refine AWp.ret ?_
      simp only [Post.then, Fin1]
      refine .inl ⟨.d (.bool true), ?_, by first | exact True.intro | rfl, ⟨rfl, rfl, rfl, rfl, trivial⟩, .inl ⟨rfl, ?_⟩⟩
      · simp only [go_sem, Tryd.results94, ↓reduceIte]
      · show _ = some (l, all, xs ++ lenc Walk.pd [], true)
        simp [lenc]
    · exact absurd he (by simpa using hb)
  · rw [if_neg (by simp [hg])] at hall ⊢
    refine on_less ?_
    refine FnG.introD Tryd.func94 (by rfl) (by rw [Tryd.ntmps94]; simp [capsOn]) ?_
    rw [Tryd.ntmps94]
    simp only [argEnv, capsOn, heapOn, Nat.reduceAdd]
    refine AWp.seq fun K hK => AWp.reg ?_
    iterate 2 (refine AOps.consU fun K' hK' => ?_; simp (disch := omega) only [go_sem, ↓reduceIte]; refine hK' _ ?_; clear hK' K')
    refine AOps.nil ?_
    simp only [Post.then]
    refine hK _ ?_; clear hK K
    refine AWp.seq fun K hK => ?_
    refine AWp.seq fun K2 hK2 => AWp.reg ?_
    iterate 5 (refine AOps.consU fun K' hK' => ?_; simp (disch := omega) only [go_sem, ↓reduceIte]; refine hK' _ ?_; clear hK' K')
    refine AOps.nil ?_
    simp only [Post.then]
    refine hK2 _ ?_; clear hK2 K2
    refine AWp.cond (b := decide ((w.list.length : Int) = length)) (by rfl) (fun hb => ?_) (fun hb => ?_)
    · refine AWp.seq fun K2 hK2 => AWp.reg ?_
      iterate 7 (refine AOps.consU fun K' hK' => ?_; simp (disch := omega) only [go_sem, ↓reduceIte]; refine hK' _ ?_; clear hK' K')
      rw [hg]
      iterate 2 (refine AOps.consU fun K' hK' => ?_; simp (disch := omega) only [go_sem, ↓reduceIte]; refine hK' _ ?_; clear hK' K')
      refine AOps.consC (by simp only [go_sem, ↓reduceIte]) fun K' hK' => ?_
      simp (disch := omega) only [go_sem, ↓reduceIte]
      refine OpT.yield (x := Walk.pd w) (by rfl) (by rfl) (by rfl) (by rfl) (by rfl) (by rfl) (by simpa [lenc] using hall) (by simp only [go_sem, ↓reduceIte]) fun b => ?_
      simp only [go_sem, ↓reduceIte]; refine hK' _ ?_; clear hK' K'
      iterate 2 (refine AOps.consU fun K' hK' => ?_; simp (disch := omega) only [go_sem, ↓reduceIte]; refine hK' _ ?_; clear hK' K')
      refine AOps.nil ?_
      simp only [Post.then]
      refine hK2 _ ?_; clear hK2 K2
      refine AWp.ret ?_
      simp only [Post.then, Fin1]
      cases b with
      | true =>
        refine .inl ⟨.d (.bool true), ?_, by first | exact True.intro | rfl, ⟨rfl, rfl, rfl, rfl, trivial⟩, .inl ⟨rfl, ?_⟩⟩
        · simp only [go_sem, Tryd.results94, ↓reduceIte]
        · rfl
      | false =>
        refine .inl ⟨.d (.bool false), ?_, by first | exact True.intro | rfl, ⟨rfl, rfl, rfl, rfl, trivial⟩, .inr ⟨lenc Walk.pd [w], [], by simp, rfl, ?_⟩⟩
        · simp only [go_sem, Tryd.results94, ↓reduceIte]
        · rfl
    · exact absurd he (by simpa using hb)
end Go.Pv.Tryd

set_option linter.unusedSimpArgs false
set_option linter.unusedVariables false
namespace Go.Pv.Tryd
open Go.Proofs Go.Pv
def heapIn (m : Market) (frm length : Int) (rounds : Bool) (l n : Nat) (s : List Bool) (w : Walk) : Heap :=
  [(1, ⟨127, 1, [.d (.fn (.yield l))]⟩), (2, ⟨128, 1, [.slc 3 0 n]⟩), (3, ⟨4, 1, dl (lenc PD.bool s)⟩), (4, ⟨127, 1, [.func (.func 94) (capsOn m frm length rounds)]⟩), (1000, ⟨83, 4, [.d w.pd]⟩)]
theorem on_leave {env : List (Nat × PV)} {c : Bool} (h9 : eget env 9 = .d (.bool c)) {m : Market} {frm length : Int} {rounds : Bool} {l : Nat} {s : List Bool} {w : Walk} {g : Gh} (hg : g.isSome = true) (hs : s.length = m.n.toNat) (h0 : 0 ≤ w.to ∧ w.to < m.n)
    (hf : s[w.to.toNat]? = some false) {R : PV → Heap → Gh → Prop} (hR : R (.d (.bool c)) (heapIn m frm length rounds l m.n.toNat s w) g) :
    Fin1 Tryd.prog G Tryd.f94 R .ret ⟨env, heapIn m frm length rounds l m.n.toNat (s.set w.to.toNat true) w, [.func (.func 95) [.ptr 2 0 0, .ptr 1000 0 0]], g⟩ := by
  have hset : (s.set w.to.toNat true).set w.to.toNat false = s := by
    rw [List.set_set]
    obtain ⟨h1, h2⟩ := List.getElem?_eq_some_iff.1 hf
    rw [← h2, List.set_getElem_self]
  have hres : ∀ (H : Heap) (D : List PV) (g : Gh), resV Tryd.prog G Tryd.f94.results.toList ⟨env, H, D, g⟩ = some (.d (.bool c)) := fun H D g => by
    simp only [go_sem, Tryd.results94, h9, ↓reduceIte]
  simp only [Fin1]
  refine .inr ⟨_, 95, _, [.ptr 1 0 0, .ptr 2 0 0], [(1, ⟨128, 1, [.slc 3 0 m.n.toNat]⟩), (3, ⟨4, 1, dl (lenc PD.bool (s.set w.to.toNat true))⟩), (2, ⟨83, 4, [.d w.pd]⟩)], renOf [(1, 2), (3, 3), (2, 1000)], _, rfl, hg, rfl, by kernel_rfl, Hand.of ?_ ?_, ?_,
    reset_fn m.n.toNat (s.set w.to.toNat true) w g hg (by simpa using hs) ⟨h0.1, by omega⟩, ?_⟩
  · simp only [go_sem, heapIn, Row.ren, renL, PV.ren, dl_ren, Walk.pd, ↓reduceIte]
  · simp only [go_sem, ↓reduceIte]
  · simp only [go_sem, handsOk, handOk, ↓reduceIte]
  · rintro p H' g' ⟨rfl, rfl⟩
    refine ⟨renOf [(1, 2), (3, 3), (2, 1000)], Back.of ?_ ?_ ?_, .d (.bool c), hres _ _ _, ?_⟩
    · simp only [go_sem, Row.ren, renL, PV.ren, dl_ren, dl_length, lenc_length, List.length_set, dl_clean, clean, cleanL, Walk.pd, or_true, true_or, ↓reduceIte]
    · simp only [go_sem, ↓reduceIte]
    · simp only [go_sem, ↓reduceIte]
    · have e : hmerge (renOf [(1, 2), (3, 3), (2, 1000)]) [(1, ⟨128, 1, [.slc 3 0 m.n.toNat]⟩), (3, ⟨4, 1, dl (lenc PD.bool ((s.set w.to.toNat true).set w.to.toNat false))⟩), (2, ⟨83, 4, [.d w.pd]⟩)] (heapIn m frm length rounds l m.n.toNat (s.set w.to.toNat true) w) = heapIn m frm length rounds l m.n.toNat s w := by
        rw [hset]
        simp only [go_sem, hmerge, heapIn, Row.ren, renL, PV.ren, dl_ren, ↓reduceIte]
      have e2 : ghBack ⟨env, heapIn m frm length rounds l m.n.toNat (s.set w.to.toNat true) w, [.func (.func 95) [.ptr 2 0 0, .ptr 1000 0 0]], g'⟩ g' g' = g' := by cases g' <;> rfl
      rw [e]
      show R _ _ (ghBack _ g' g')
      rw [e2]
      exact hR
end Go.Pv.Tryd

set_option linter.unusedSimpArgs false
set_option linter.unusedVariables false
namespace Go.Pv.Tryd
open Go.Proofs Go.Pv
def addOf (offers : List Offer) (frm length : Int) (rounds : Bool) (k : Nat) (w : Walk) (s : List Bool) (oi : Offer × Nat) : List Walk :=
  if walkSkip frm length rounds w (s.set w.to.toNat true) oi.1 = true then []
  else walkOn offers frm length rounds k ⟨w.list ++ [(oi.2 : Int)], timesN w.rate (ratioN oi.1.Num oi.1.Den), oi.1.To⟩ (s.set w.to.toNat true)
def ysOf (offers : List Offer) (frm length : Int) (rounds : Bool) (k : Nat) (w : Walk) (s : List Bool) (i : Nat) : List Walk := (offers.zipIdx.take i).flatMap (addOf offers frm length rounds k w s)
theorem ysOf_zero (offers : List Offer) (frm length : Int) (rounds : Bool) (k : Nat) (w : Walk) (s : List Bool) : ysOf offers frm length rounds k w s 0 = [] := rfl
theorem ysOf_succ {offers : List Offer} {frm length : Int} {rounds : Bool} {k : Nat} {w : Walk} {s : List Bool} {i : Nat} {o : Offer} (h : offers[i]? = some o) :
    ysOf offers frm length rounds k w s (i + 1) = ysOf offers frm length rounds k w s i ++ addOf offers frm length rounds k w s (o, i) := by
  have hz : offers.zipIdx[i]? = some (o, i) := by simp [List.getElem?_zipIdx, h]
  unfold ysOf
  rw [List.take_add_one, hz]
  simp [List.flatMap_append]
theorem ysOf_all (offers : List Offer) (frm length : Int) (rounds : Bool) (k : Nat) (w : Walk) (s : List Bool) : ysOf offers frm length rounds k w s offers.length = offers.zipIdx.flatMap (addOf offers frm length rounds k w s) := by
  unfold ysOf
  rw [List.take_of_length_le (by simp)]
theorem ysOf_pre {offers : List Offer} {frm length : Int} {rounds : Bool} {k : Nat} {w : Walk} {s : List Bool} {i : Nat} : ∃ r, offers.zipIdx.flatMap (addOf offers frm length rounds k w s) = ysOf offers frm length rounds k w s i ++ r := by
  refine ⟨(offers.zipIdx.drop i).flatMap (addOf offers frm length rounds k w s), ?_⟩
  unfold ysOf
  rw [← List.flatMap_append, List.take_append_drop]
def headOn (m : Market) (frm length : Int) (rounds : Bool) (l : Nat) (all xs : List PD) (k : Nat) (w : Walk) (s : List Bool) (i : Nat) : St :=
  ⟨[(1, .dptr 1 [.int .i64 length] 0 0), (2, .dptr 1 [.int .i64 frm] 0 0), (3, .dptr 1 [.bool rounds] 0 0), (5, .ptr 2 0 0), (7, .ptr 4 0 0), (8, .ptr 1000 0 0), (35, .d (.imm 4 (lenc Offer.pd m.offers))), (36, .d (.int .i64 m.offers.length)), (37, .d (.int .i64 i))],
   heapIn m frm length rounds l m.n.toNat (s.set w.to.toNat true) w, [.func (.func 95) [.ptr 2 0 0, .ptr 1000 0 0]], some (l, all, xs ++ lenc Walk.pd (ysOf m.offers frm length rounds k w s i), true)⟩
theorem heapIn_refs (m : Market) (frm length : Int) (rounds : Bool) (l n : Nat) (s : List Bool) (w : Walk) : heapRefs (heapIn m frm length rounds l n s w) (heapIn m frm length rounds l n s w) := by
  simp only [heapIn, capsOn, go_sem, ↓reduceIte]
theorem on_step (m : Market) (frm length : Int) (rounds : Bool) (l : Nat) (all : List PD) (hpre : walksPre m frm length rounds = true) (k : Nat) (w : Walk) (s : List Bool) (xs : List PD) (hk : OnOk m length w s (k + 1)) (he : ¬ (w.list.length : Int) = length)
    (ih : ∀ (w' : Walk) (s' : List Bool) (xs' : List PD), OnOk m length w' s' k → xs' ++ lenc Walk.pd (walkOn m.offers frm length rounds k w' s') <+: all →
      FnG Tryd.prog G 94 (.d w'.pd :: capsOn m frm length rounds) (heapOn m frm length rounds l m.n.toNat s') (some (l, all, xs', true)) (OnPost (lenc Walk.pd (walkOn m.offers frm length rounds k w' s')) (heapOn m frm length rounds l m.n.toNat s') l all xs'))
    (hall : xs ++ lenc Walk.pd (walkOn m.offers frm length rounds (k + 1) w s) <+: all) :
    FnG Tryd.prog G 94 (.d w.pd :: capsOn m frm length rounds) (heapOn m frm length rounds l m.n.toNat s) (some (l, all, xs, true)) (OnPost (lenc Walk.pd (walkOn m.offers frm length rounds (k + 1) w s)) (heapOn m frm length rounds l m.n.toNat s) l all xs) := by
  have hw : walkOn m.offers frm length rounds (k + 1) w s = m.offers.zipIdx.flatMap (addOf m.offers frm length rounds k w s) := by rw [walkOn, if_neg he]; rfl
  rw [hw] at hall ⊢
  have hf : s[w.to.toNat]? = some false := hk.free.resolve_right he
  have hto : w.to.toNat < s.length := by rw [hk.len]; have := hk.to1; have := hk.to2; omega
  have hn : s.length = m.n.toNat := hk.len
  have ht1 := hk.to1
  have ht2 := hk.to2
  refine on_less ?_
  refine FnG.introD Tryd.func94 (by rfl) (by rw [Tryd.ntmps94]; simp [capsOn]) ?_
  rw [Tryd.ntmps94]
  simp only [argEnv, capsOn, heapOn, Nat.reduceAdd]
  refine AWp.seq fun K hK => AWp.reg ?_
  iterate 2 (refine AOps.consU fun K' hK' => ?_; simp (disch := omega) only [go_sem, ↓reduceIte]; refine hK' _ ?_; clear hK' K')
  refine AOps.nil ?_
  simp only [Post.then]
  refine hK _ ?_; clear hK K
  refine AWp.seq fun K hK => ?_
  refine AWp.seq fun K2 hK2 => AWp.reg ?_
  iterate 5 (refine AOps.consU fun K' hK' => ?_; simp (disch := omega) only [go_sem, ↓reduceIte]; refine hK' _ ?_; clear hK' K')
  refine AOps.nil ?_
  simp only [Post.then]
  refine hK2 _ ?_; clear hK2 K2
  refine AWp.cond (b := decide ((w.list.length : Int) = length)) (by rfl) (fun hb => ?_) (fun hb => ?_)
  · exact absurd (by simpa using hb) he
  refine AWp.skip ?_
  simp only [Post.then, Post.inBlock]
  refine hK _ ?_; clear hK K
  -- seen
  have hget : s[w.to.toNat]? = some s[w.to.toNat] := List.getElem?_eq_getElem hto
  refine AWp.seq fun K hK => AWp.reg ?_
  iterate 5 (refine AOps.consU fun K' hK' => ?_; simp (disch := omega) only [go_sem, hget, ↓reduceIte]; refine hK' _ ?_; clear hK' K')
  refine AOps.nil ?_
  simp only [Post.then]
  refine hK _ ?_; clear hK K
  -- the deferred call
  refine AWp.seq fun K hK => AWp.reg ?_
  iterate 1 (refine AOps.consU fun K' hK' => ?_; simp (disch := omega) only [go_sem, ↓reduceIte]; refine hK' _ ?_; clear hK' K')
  refine AOps.consC (by simp only [go_sem]) fun K' hK' => ?_
  simp (disch := omega) only [go_sem, ↓reduceIte]
  refine OpT.defer (by rfl) (by rfl) (by rfl) (by rfl) (by simp only [go_sem]) ?_
  simp only [go_sem, ↓reduceIte]; refine hK' _ ?_; clear hK' K'
  refine AOps.nil ?_
  simp only [Post.then]
  refine hK _ ?_; clear hK K
  -- the loop
  refine AWp.seqI (fun _ : Unit => headOn m frm length rounds l all xs k w s m.offers.length) (fun _ => True) ?_ ?_
  rotate_left
  · rintro ⟨⟩ _
    simp only [headOn]
    refine AWp.seq fun K hK => AWp.reg ?_
    iterate 1 (refine AOps.consU fun K' hK' => ?_; simp (disch := omega) only [go_sem, ↓reduceIte]; refine hK' _ ?_; clear hK' K')
    refine AOps.nil ?_
    simp only [Post.then]
    refine hK _ ?_; clear hK K
    refine AWp.ret ?_
    refine on_leave (c := true) (by rfl) rfl hn ⟨ht1, ht2⟩ hf ⟨⟨rfl, rfl, rfl, rfl, trivial⟩, .inl ⟨rfl, ?_⟩⟩
    rw [ysOf_all]
  refine AWp.seq fun K hK => AWp.reg ?_
  iterate 4 (refine AOps.consU fun K' hK' => ?_; simp (disch := omega) only [go_sem, ↓reduceIte]; refine hK' _ ?_; clear hK' K')
  refine AOps.nil ?_
  simp only [Post.then]
  refine hK _ ?_; clear hK K
  refine AWp.block ?_
  refine AWp.loopI (fun i : Nat => headOn m frm length rounds l all xs k w s i) (fun i => i ≤ m.offers.length) (fun i => m.offers.length - i) 0 (Nat.zero_le _) ?_ ?_
  · refine Sub.mk ⟨rfl, rfl, rfl, rfl, rfl, rfl, rfl, rfl, rfl, trivial⟩ ⟨rfl, rfl, rfl, rfl, rfl, trivial⟩ ⟨trivial, trivial, trivial, rfl, rfl, rfl, trivial, trivial, trivial, trivial⟩ (heapIn_refs ..) ⟨rfl, ?_, ?_⟩
    · simp only [headOn, heapIn, go_sem, ↓reduceIte]
    · simp [headOn, ysOf_zero, lenc]
  · intro i hi
    simp only [headOn, heapIn]
    refine AWp.seq fun K hK => AWp.reg ?_
    iterate 1 (refine AOps.consU fun K' hK' => ?_; simp (disch := omega) only [go_sem, ↓reduceIte]; refine hK' _ ?_; clear hK' K')
    refine AOps.nil ?_
    simp only [Post.then]
    refine hK _ ?_; clear hK K
    refine AWp.seq fun K hK => ?_
    refine AWp.cond (b := decide ((i : Int) < m.offers.length)) (by rfl) (fun hb => ?_) (fun hb => ?_)
    rotate_left
    · have hi2 : i = m.offers.length := by
        have : ¬ (i : Int) < m.offers.length := by simpa using hb
        omega
      subst hi2
      refine AWp.exit ?_
      simp only [Post.then, Post.inBlock, ↓reduceIte]
      refine ⟨(), trivial, ?_⟩
      exact Sub.mk ⟨rfl, rfl, rfl, rfl, rfl, rfl, rfl, rfl, rfl, trivial⟩ ⟨rfl, rfl, rfl, rfl, rfl, trivial⟩ ⟨trivial, trivial, trivial, rfl, rfl, rfl, trivial, trivial, trivial, trivial⟩ (heapIn_refs ..) ⟨rfl, by simp only [headOn, heapIn, go_sem, ↓reduceIte], rfl⟩
    have hi2 : i < m.offers.length := by
      have : (i : Int) < m.offers.length := by simpa using hb
      omega
    obtain ⟨o, ho⟩ : ∃ o, m.offers[i]? = some o := ⟨_, List.getElem?_eq_getElem hi2⟩
    have hgo : goodOffer m.n o = true := by
      simp only [walksPre, Bool.and_eq_true, List.all_eq_true] at hpre
      exact hpre.2 o (List.mem_of_getElem? ho)
    have hyd : ∀ (σ' : St), Sub G 94 σ' (headOn m frm length rounds l all xs k w s (i + 1)) → ∃ i', i' ≤ m.offers.length ∧ m.offers.length - i' < m.offers.length - i ∧ Sub G 94 σ' (headOn m frm length rounds l all xs k w s i') := fun σ' h => ⟨i + 1, by omega, by omega, h⟩
    refine AWp.skip ?_
    simp only [Post.then, Post.inBlock]
    refine hK _ ?_; clear hK K
    refine AWp.seq fun K hK => ?_
    refine AWp.block ?_
    refine AWp.seq fun K2 hK2 => AWp.reg ?_
    iterate 6 (refine AOps.consU fun K' hK' => ?_; simp (disch := omega) only [go_sem, ho, Int.toNat_natCast, ↓reduceIte]; refine hK' _ ?_; clear hK' K')
    refine AOps.nil ?_
    simp only [Post.then]
    refine hK2 _ ?_; clear hK2 K2
    refine AWp.seq fun K2 hK2 => AWp.reg ?_
    iterate 7 (refine AOps.consU fun K' hK' => ?_; simp (disch := omega) only [go_sem, ↓reduceIte]; refine hK' _ ?_; clear hK' K')
    refine AOps.nil ?_
    simp only [Post.then]
    refine hK2 _ ?_; clear hK2 K2
    refine AWp.seq fun K2 hK2 => ?_
    refine AWp.seq fun K3 hK3 => AWp.reg ?_
    simp only [goodOffer, decide_eq_true_eq] at hgo
    obtain ⟨hg1, hg2, hg3, hg4, hg5, hg6, hg7, hg8⟩ := hgo
    have hto2 : o.To.toNat < (s.set w.to.toNat true).length := by rw [List.length_set, hn]; omega
    have hse : (s.set w.to.toNat true)[o.To.toNat]? = some ((s.set w.to.toNat true).getD o.To.toNat false) := by
      simp only [List.getD, List.getElem?_eq_getElem hto2, Option.getD_some]
    have hwl : w.list.length ≤ 1000 := by
      have := hk.k1
      simp only [walksPre, Bool.and_eq_true, decide_eq_true_eq] at hpre
      omega
    have hra : m_rate_ratio o.Num o.Den = some (ratioN o.Num o.Den) := ratio_some _ _ ⟨hg5, by omega⟩ ⟨hg7, by omega⟩
    have hgcd : 0 < Int.gcd o.Num o.Den := Int.gcd_pos_of_ne_zero_left _ (by omega)
    have hrn : 1 ≤ (ratioN o.Num o.Den).Num ∧ (ratioN o.Num o.Den).Num ≤ 50 ∧ 1 ≤ (ratioN o.Num o.Den).Den ∧ (ratioN o.Num o.Den).Den ≤ 50 := ratioN_bounds ⟨hg5, hg6⟩ ⟨hg7, hg8⟩
    have hp6 : (50 : Int) ^ w.list.length ≤ 15625000000 := by
      have hl : w.list.length ≤ 5 := by
        have := hk.k1
        simp only [walksPre, Bool.and_eq_true, decide_eq_true_eq] at hpre
        omega
      have : ∀ n : Nat, n ≤ 5 → (50 : Int) ^ n ≤ 15625000000 := by decide
      exact this _ hl
    have hti : m_rate_times w.rate (ratioN o.Num o.Den) = some (timesN w.rate (ratioN o.Num o.Den)) := by
      have b1 := hk.num1
      have b2 := hk.num2
      have b3 := hk.den1
      have b4 := hk.den2
      have m1 := mul_bounds (x := w.rate.Num) (y := (ratioN o.Num o.Den).Num) (a := 15625000000) (b := 50) ⟨by omega, by omega⟩ ⟨by omega, by omega⟩
      have m2 := mul_bounds (x := w.rate.Den) (y := (ratioN o.Num o.Den).Den) (a := 15625000000) (b := 50) ⟨by omega, by omega⟩ ⟨by omega, by omega⟩
      exact times_some _ _ ⟨by omega, by omega⟩ ⟨by omega, by omega⟩ ⟨by omega, by omega⟩ ⟨by omega, by omega⟩ (by omega) (by omega)
    have wl : IntKind.i64.wrap (length - 1) = length - 1 := by
      simp only [walksPre, Bool.and_eq_true, decide_eq_true_eq] at hpre
      exact wrap_i64_eq (by omega)
    have hlen2 : o.To < ((m.n.toNat : Nat) : Int) := by omega
    refine AOps.cut 25 (⟨[(1, .dptr 1 [.int .i64 length] 0 0), (2, .dptr 1 [.int .i64 frm] 0 0), (3, .dptr 1 [.bool rounds] 0 0), (5, .ptr 2 0 0), (7, .ptr 4 0 0), (8, .ptr 1000 0 0), (10, .d (.int .i64 i)), (11, .ptr 1001 0 0), (35, .d (.imm 4 (lenc Offer.pd m.offers))), (36, .d (.int .i64 m.offers.length)), (37, .d (.int .i64 i)), (72, .d (.bool (walkSkip frm length rounds w (s.set w.to.toNat true) o)))],
      heapIn m frm length rounds l m.n.toNat (s.set w.to.toNat true) w ++ [(1001, ⟨43, 4, [.d o.pd]⟩)], [.func (.func 95) [.ptr 2 0 0, .ptr 1000 0 0]], some (l, all, xs ++ lenc Walk.pd (ysOf m.offers frm length rounds k w s i), true)⟩) ?_ ?_
    · simp only [List.take_succ_cons, List.take_zero]
      rcases Bool.eq_false_or_eq_true (decide (¬o.From = w.to)) with c1 | c1
      · have hsk : walkSkip frm length rounds w (s.set w.to.toNat true) o = true := by simp only [walkSkip, c1, Bool.true_or]
        rw [hsk]
        iterate 25 (refine AOps.consU fun K' hK' => ?_; simp (disch := omega) only [go_sem, hse, c1, ↓reduceIte]; refine hK' _ ?_; clear hK' K')
        refine AOps.nil ?_
        exact Sub.mk ⟨rfl, rfl, rfl, rfl, rfl, rfl, rfl, rfl, rfl, rfl, rfl, rfl, trivial⟩ ⟨rfl, rfl, rfl, rfl, rfl, rfl, trivial⟩ ⟨trivial, trivial, trivial, rfl, rfl, rfl, trivial, rfl, trivial, trivial, trivial, trivial, trivial⟩ (by simp only [heapIn, capsOn, go_sem, ↓reduceIte]) ⟨rfl, by simp only [heapIn, go_sem, ↓reduceIte], rfl⟩
      rcases Bool.eq_false_or_eq_true ((s.set w.to.toNat true).getD o.To.toNat false) with c2 | c2
      rotate_left
      · have hsk : walkSkip frm length rounds w (s.set w.to.toNat true) o = false := by simp only [walkSkip, c1, c2, Bool.false_and, Bool.or_false]
        rw [hsk]
        iterate 25 (refine AOps.consU fun K' hK' => ?_; simp (disch := omega) only [go_sem, hse, c1, c2, ↓reduceIte]; refine hK' _ ?_; clear hK' K')
        refine AOps.nil ?_
        exact Sub.mk ⟨rfl, rfl, rfl, rfl, rfl, rfl, rfl, rfl, rfl, rfl, rfl, rfl, trivial⟩ ⟨rfl, rfl, rfl, rfl, rfl, rfl, trivial⟩ ⟨trivial, trivial, trivial, rfl, rfl, rfl, trivial, rfl, trivial, trivial, trivial, trivial, trivial⟩ (by simp only [heapIn, capsOn, go_sem, ↓reduceIte]) ⟨rfl, by simp only [heapIn, go_sem, ↓reduceIte], rfl⟩
      rcases Bool.eq_false_or_eq_true rounds with c3 | c3
      rotate_left
      · subst c3
        have hsk : walkSkip frm length false w (s.set w.to.toNat true) o = true := by simp only [walkSkip, c1, c2, Bool.false_and, Bool.not_false, Bool.and_true, Bool.or_true]
        rw [hsk]
        iterate 25 (refine AOps.consU fun K' hK' => ?_; simp (disch := omega) only [go_sem, hse, c1, c2, ↓reduceIte]; refine hK' _ ?_; clear hK' K')
        refine AOps.nil ?_
        exact Sub.mk ⟨rfl, rfl, rfl, rfl, rfl, rfl, rfl, rfl, rfl, rfl, rfl, rfl, trivial⟩ ⟨rfl, rfl, rfl, rfl, rfl, rfl, trivial⟩ ⟨trivial, trivial, trivial, rfl, rfl, rfl, trivial, rfl, trivial, trivial, trivial, trivial, trivial⟩ (by simp only [heapIn, capsOn, go_sem, ↓reduceIte]) ⟨rfl, by simp only [heapIn, go_sem, ↓reduceIte], rfl⟩
      subst c3
      rcases Bool.eq_false_or_eq_true (decide ((w.list.length : Int) = length - 1)) with c4 | c4
      rotate_left
      · have hsk : walkSkip frm length true w (s.set w.to.toNat true) o = true := by simp only [walkSkip, c1, c2, c4, Bool.and_false, Bool.false_and, Bool.not_false, Bool.and_true, Bool.or_true]
        rw [hsk]
        iterate 25 (refine AOps.consU fun K' hK' => ?_; simp (disch := omega) only [go_sem, hse, c1, c2, c4, wl, ↓reduceIte]; refine hK' _ ?_; clear hK' K')
        refine AOps.nil ?_
        exact Sub.mk ⟨rfl, rfl, rfl, rfl, rfl, rfl, rfl, rfl, rfl, rfl, rfl, rfl, trivial⟩ ⟨rfl, rfl, rfl, rfl, rfl, rfl, trivial⟩ ⟨trivial, trivial, trivial, rfl, rfl, rfl, trivial, rfl, trivial, trivial, trivial, trivial, trivial⟩ (by simp only [heapIn, capsOn, go_sem, ↓reduceIte]) ⟨rfl, by simp only [heapIn, go_sem, ↓reduceIte], rfl⟩
      · have hsk : walkSkip frm length true w (s.set w.to.toNat true) o = !(decide (o.To = frm)) := by simp only [walkSkip, c1, c2, c4, Bool.true_and, Bool.and_true, Bool.false_or]
        rw [hsk]
        iterate 25 (refine AOps.consU fun K' hK' => ?_; simp (disch := omega) only [go_sem, hse, c1, c2, c4, wl, ↓reduceIte]; refine hK' _ ?_; clear hK' K')
        refine AOps.nil ?_
        exact Sub.mk ⟨rfl, rfl, rfl, rfl, rfl, rfl, rfl, rfl, rfl, rfl, rfl, rfl, trivial⟩ ⟨rfl, rfl, rfl, rfl, rfl, rfl, trivial⟩ ⟨trivial, trivial, trivial, rfl, rfl, rfl, trivial, rfl, trivial, trivial, trivial, trivial, trivial⟩ (by simp only [heapIn, capsOn, go_sem, ↓reduceIte]) ⟨rfl, by simp only [heapIn, go_sem, ↓reduceIte], rfl⟩
    simp only [List.drop_succ_cons, List.drop_zero, heapIn, List.cons_append, List.nil_append]
    refine AOps.nil ?_
    simp only [Post.then]
    refine hK3 _ ?_; clear hK3 K3
    refine AWp.cond (b := walkSkip frm length rounds w (s.set w.to.toNat true) o) (by rfl) (fun hb => ?_) (fun hb => ?_)
    · refine AWp.exit ?_
      simp only [Post.then, Post.inBlock, ↓reduceIte]
      refine hK _ ?_; clear hK2 K2 hK K
      refine AWp.reg ?_
      iterate 2 (refine AOps.consU fun K' hK' => ?_; simp (disch := omega) only [go_sem, ↓reduceIte]; refine hK' _ ?_; clear hK' K')
      refine AOps.nil ?_
      simp only [Post.then]
      refine hyd _ ?_
      have hys : ysOf m.offers frm length rounds k w s (i + 1) = ysOf m.offers frm length rounds k w s i := by
        rw [ysOf_succ ho]; simp only [addOf, hb, if_true, List.append_nil]
      have hwi : IntKind.i64.wrap ((i : Int) + 1) = ((i + 1 : Nat) : Int) := by
        simp only [walksPre, Bool.and_eq_true, decide_eq_true_eq] at hpre
        rw [wrap_i64_eq (by omega)]; omega
      rw [hwi]
      exact Sub.mk ⟨rfl, rfl, rfl, rfl, rfl, rfl, rfl, rfl, rfl, trivial⟩ ⟨rfl, rfl, rfl, rfl, rfl, trivial⟩ ⟨trivial, trivial, trivial, rfl, rfl, rfl, trivial, trivial, trivial, trivial⟩ (heapIn_refs ..) ⟨rfl, by simp only [headOn, heapIn, go_sem, ↓reduceIte], by simp only [headOn, hys]⟩
    · refine AWp.skip ?_
      simp only [Post.then, Post.inBlock]
      refine hK2 _ ?_; clear hK2 K2
      refine AWp.seq fun K2 hK2 => AWp.draw mo [(1002, [76, 79, 90])] ⟨by rfl, trivial⟩ ?_
      iterate 3 (refine DOps.consU fun K' hK' => ?_; simp (disch := omega) only [go_sem, exE, exOk, Key.among, Cont.rows, rowsOf, rowsOfL, capsOn, false_or, or_true, true_or, or_false, List.contains_cons, List.contains_nil, ↓reduceIte]; refine hK' _ _ ?_; clear hK' K'; simp only [List.nil_append, List.cons_append])
      refine DOps.consC fun K' hK' => ?_
      simp (disch := omega) only [go_sem, ↓reduceIte]
      refine OpX.callRow 1002 (by rfl) (by rfl) (by kernel_rfl) (clone_fn w.list hwl) (by exact ⟨rfl, trivial⟩) (by simp only [go_sem, ↓reduceIte]) (by rfl) (by decide) (by simp only [go_sem, exE, exOk, Key.among, Cont.rows, rowsOf, rowsOfL, capsOn, false_or, or_true, true_or, or_false, List.contains_cons, List.contains_nil, ↓reduceIte]) ?_
      simp (disch := omega) only [go_sem, ↓reduceIte]; refine hK' _ _ ?_; clear hK' K'; simp only [List.nil_append, List.cons_append]
      iterate 1 (refine DOps.consU fun K' hK' => ?_; simp (disch := omega) only [go_sem, exE, exOk, Key.among, Cont.rows, rowsOf, rowsOfL, capsOn, false_or, or_true, true_or, or_false, List.contains_cons, List.contains_nil, ↓reduceIte]; refine hK' _ _ ?_; clear hK' K'; simp only [List.nil_append, List.cons_append])
      refine DOps.consLU fun K' hK' => ?_; simp (disch := omega) only [go_sem, exE, exOk, Key.among, Cont.rows, rowsOf, rowsOfL, capsOn, false_or, or_true, true_or, or_false, List.contains_cons, List.contains_nil, ↓reduceIte]; refine hK' _ _ ?_; clear hK' K'; simp only [List.nil_append, List.cons_append]
      refine DOps.consC fun K' hK' => ?_
      simp (disch := omega) only [go_sem, ↓reduceIte]
      refine OpX.app (r := 1002) (n := w.list.length) (L := [.d (.int .i64 (i : Int))]) (S := [76, 79, 90]) (by rfl) (by rfl) (by rfl) (by rfl) (by rfl) (by decide) se27 T3_ok (by rfl) (by rfl) (by simp only [go_sem, ↓reduceIte]) (by simp only [go_sem]) (by rfl) (by simp only [go_sem]) (by decide) (by simp only [List.length_singleton]; omega) (by simp only [List.length_singleton, go_sem]; omega) (.inl ⟨rfl, rfl⟩) (by rfl) (by rfl) (by decide) (by simp only [leadOnly, go_sem, rowsOf, exE, exOk, Key.among, Cont.rows, rowsOf, rowsOfL, capsOn, false_or, or_true, true_or, or_false, List.contains_cons, List.contains_nil, ↓reduceIte]) (by simp only [go_sem]) (by rfl) (by rfl) (by simp only [go_sem, dl_rows, exE, exOk, Key.among, Cont.rows, rowsOf, rowsOfL, capsOn, false_or, or_true, true_or, or_false, List.contains_cons, List.contains_nil, ↓reduceIte]) ?_
      simp (disch := omega) only [go_sem, ↓reduceIte]; refine hK' _ _ ?_; clear hK' K'; simp only [List.nil_append, List.cons_append]
      iterate 6 (refine DOps.consU fun K' hK' => ?_; simp (disch := omega) only [go_sem, exE, exOk, Key.among, Cont.rows, rowsOf, rowsOfL, capsOn, false_or, or_true, true_or, or_false, List.contains_cons, List.contains_nil, dl_rows, ↓reduceIte]; refine hK' _ _ ?_; clear hK' K'; simp only [List.nil_append, List.cons_append])
      refine DOps.consC fun K' hK' => ?_
      simp (disch := omega) only [go_sem, ↓reduceIte]
      refine OpX.call (by rfl) (by rfl) (by kernel_rfl) (m_rate_ratio_ok o.Num o.Den _ hra) (by exact ⟨rfl, rfl, trivial⟩) (by simp only [go_sem, ↓reduceIte]) (by simp only [go_sem]) (by simp only [go_sem, exE, exOk, Key.among, Cont.rows, rowsOf, rowsOfL, capsOn, false_or, or_true, true_or, or_false, List.contains_cons, List.contains_nil, dl_rows, ↓reduceIte]) ?_
      simp (disch := omega) only [go_sem, ↓reduceIte]; refine hK' _ _ ?_; clear hK' K'; simp only [List.nil_append, List.cons_append]
      refine DOps.consC fun K' hK' => ?_
      simp (disch := omega) only [go_sem, ↓reduceIte]
      refine OpX.call (by rfl) (by rfl) (by kernel_rfl) (m_rate_times_ok w.rate (ratioN o.Num o.Den) _ hti) (by exact ⟨rfl, rfl, trivial⟩) (by simp only [go_sem, ↓reduceIte]) (by simp only [go_sem]) (by simp only [go_sem, exE, exOk, Key.among, Cont.rows, rowsOf, rowsOfL, capsOn, false_or, or_true, true_or, or_false, List.contains_cons, List.contains_nil, dl_rows, ↓reduceIte]) ?_
      simp (disch := omega) only [go_sem, ↓reduceIte]; refine hK' _ _ ?_; clear hK' K'; simp only [List.nil_append, List.cons_append]
      iterate 3 (refine DOps.consU fun K' hK' => ?_; simp (disch := omega) only [go_sem, exE, exOk, Key.among, Cont.rows, rowsOf, rowsOfL, capsOn, false_or, or_true, true_or, or_false, List.contains_cons, List.contains_nil, dl_rows, ↓reduceIte]; refine hK' _ _ ?_; clear hK' K'; simp only [List.nil_append, List.cons_append])
      refine DOps.stop (by kernel_rfl) ?_
      have hlst : lstD 1 (lenc (PD.int .i64) (w.list ++ [(i : Int)])) = .imm 1 (lenc (PD.int .i64) (w.list ++ [(i : Int)])) := by
        cases w.list <;> rfl
      have hpd : Walk.pd ⟨w.list ++ [(i : Int)], timesN w.rate (ratioN o.Num o.Den), o.To⟩ = .agg [.imm 1 (lenc (PD.int .i64) (w.list ++ [(i : Int)])), .int .i64 (timesN w.rate (ratioN o.Num o.Den)).Num, .int .i64 (timesN w.rate (ratioN o.Num o.Den)).Den, .int .i64 o.To] := by
        simp only [Walk.pd, hlst]
      refine AOps.sub (τ := ⟨[(1, .dptr 1 [.int .i64 length] 0 0), (2, .dptr 1 [.int .i64 frm] 0 0), (3, .dptr 1 [.bool rounds] 0 0), (5, .ptr 2 0 0), (7, .ptr 4 0 0), (8, .ptr 1000 0 0), (35, .d (.imm 4 (lenc Offer.pd m.offers))), (36, .d (.int .i64 m.offers.length)), (37, .d (.int .i64 i)), (73, .func (.func 94) (capsOn m frm length rounds)), (90, .d (Walk.pd ⟨w.list ++ [(i : Int)], timesN w.rate (ratioN o.Num o.Den), o.To⟩))],
        heapIn m frm length rounds l m.n.toNat (s.set w.to.toNat true) w, [.func (.func 95) [.ptr 2 0 0, .ptr 1000 0 0]], some (l, all, xs ++ lenc Walk.pd (ysOf m.offers frm length rounds k w s i), true)⟩)
        (Sub.cv ⟨rfl, rfl, rfl, rfl, rfl, trivial⟩ ⟨.inl ⟨leV_refl _, trivial⟩, .inl ⟨leV_refl _, trivial⟩, .inl ⟨leV_refl _, trivial⟩, .inl ⟨leV_refl _, rfl⟩, .inl ⟨leV_refl _, rfl⟩, .inl ⟨leV_refl _, rfl⟩, .inl ⟨leV_refl _, trivial⟩, .inl ⟨leV_refl _, trivial⟩, .inl ⟨leV_refl _, trivial⟩, .inl ⟨leV_refl _, by simp only [heapIn, capsOn, go_sem, ↓reduceIte]⟩, .inr ⟨.d (Walk.pd ⟨w.list ++ [(i : Int)], timesN w.rate (ratioN o.Num o.Den), o.To⟩), ?_, leV_refl _, ?_⟩, trivial⟩ (heapIn_refs ..) ⟨rfl, by simp only [heapIn, go_sem, ↓reduceIte], rfl⟩) ?_
      · rw [hpd]
        have htk : (w.list ++ [(i : Int)]).take (w.list.length + 1) = w.list ++ [(i : Int)] := List.take_of_length_le (by simp)
        simp only [go_sem, htk, ↓reduceIte]
      · intro r hr
        simp only [go_sem, rowsOf, rowsOfL, List.mem_cons, List.not_mem_nil, or_false, ↓reduceIte] at hr
        subst hr; rfl
      have hadd : addOf m.offers frm length rounds k w s (o, i) = walkOn m.offers frm length rounds k ⟨w.list ++ [(i : Int)], timesN w.rate (ratioN o.Num o.Den), o.To⟩ (s.set w.to.toNat true) := by
        simp only [addOf, hb, Bool.false_eq_true, if_false]
      have hok : OnOk m length ⟨w.list ++ [(i : Int)], timesN w.rate (ratioN o.Num o.Den), o.To⟩ (s.set w.to.toNat true) k := by
        have hk1 := hk.k1
        have htb := timesN_bounds (p := w.rate) (q := ratioN o.Num o.Den) (a := 50 ^ w.list.length) (b := 50) ⟨hk.num1, hk.num2⟩ ⟨hk.den1, hk.den2⟩ ⟨by omega, by omega⟩ ⟨by omega, by omega⟩
        have hll : (w.list ++ [(i : Int)]).length = w.list.length + 1 := by simp
        have hlg : 0 ≤ length := by
          simp only [walksPre, Bool.and_eq_true, decide_eq_true_eq] at hpre
          omega
        refine ⟨by rw [hll]; omega, by omega, by rw [List.length_set]; exact hn, hg3, hg4, htb.1, ?_, htb.2.2.1, ?_, ?_⟩
        · rw [hll, Int.pow_succ]; exact htb.2.1
        · rw [hll, Int.pow_succ]; exact htb.2.2.2
        · rw [hll]
          rcases Bool.eq_false_or_eq_true ((s.set w.to.toNat true).getD o.To.toNat false) with c | c
          · right
            have hb2 := hb
            simp only [walkSkip, c, Bool.true_and, Bool.or_eq_false_iff, Bool.not_eq_false', Bool.and_eq_true, decide_eq_true_eq] at hb2
            have := hb2.2.1.2
            omega
          · left
            rw [hse, c]
      have hpf : (xs ++ lenc Walk.pd (ysOf m.offers frm length rounds k w s i)) ++ lenc Walk.pd (walkOn m.offers frm length rounds k ⟨w.list ++ [(i : Int)], timesN w.rate (ratioN o.Num o.Den), o.To⟩ (s.set w.to.toNat true)) <+: all := by
        obtain ⟨r, hr⟩ := ysOf_pre (offers := m.offers) (frm := frm) (length := length) (rounds := rounds) (k := k) (w := w) (s := s) (i := i + 1)
        rw [ysOf_succ ho, hadd] at hr
        refine List.IsPrefix.trans ⟨lenc Walk.pd r, ?_⟩ hall
        rw [hr]; simp [lenc]
      simp only [heapIn]
      refine AOps.consC (by simp only [go_sem, ↓reduceIte]) fun K' hK' => ?_
      simp (disch := omega) only [go_sem, ↓reduceIte]
      refine OpT.callG (H := heapOn m frm length rounds l m.n.toNat (s.set w.to.toNat true)) (g := id) (gc := some (l, all, xs ++ lenc Walk.pd (ysOf m.offers frm length rounds k w s i), true)) (by rfl) (by rfl) (by rfl) (by kernel_rfl) (ih _ _ _ hok hpf) (Hand.of ?_ ?_) (.inr rfl) ?_ (by simp only [go_sem, ↓reduceIte]) ?_
      · simp only [go_sem, heapOn, capsOn, Row.ren, renL, PV.ren, dl_ren, id, ↓reduceIte]
      · simp only [go_sem, heapOn, id, ↓reduceIte]
      · simp only [go_sem, heapOn, capsOn, handsOk, handOk, id, ↓reduceIte]
      rintro p H' g' ⟨rfl, hp⟩
      refine ⟨id, Back.of ?_ ?_ ?_, ?_, ?_, ?_⟩
      · simp only [go_sem, heapOn, capsOn, Row.ren, renL, PV.ren, dl_ren, id, dl_length, dl_clean, clean, cleanL, or_true, true_or, ↓reduceIte]
      · simp only [go_sem, heapOn, id, ↓reduceIte]
      · simp only [go_sem, heapOn, id, ↓reduceIte]
      · rcases hp with ⟨rfl, _⟩ | ⟨_, _, _, rfl, _⟩ <;> trivial
      · rcases hp with ⟨rfl, _⟩ | ⟨_, _, _, rfl, _⟩ <;> trivial
      rcases hp with ⟨rfl, rfl⟩ | ⟨part, rest, hpr, rfl, rfl⟩
      · simp only [go_sem, heapOn, capsOn, hmerge, Row.ren, renL, PV.ren, dl_ren, id, ghBack, ↓reduceIte]; refine hK' _ ?_; clear hK' K'
        iterate 1 (refine AOps.consU fun K' hK' => ?_; simp (disch := omega) only [go_sem, ↓reduceIte]; refine hK' _ ?_; clear hK' K')
        refine AOps.nil ?_
        simp only [Post.then]
        refine hK2 _ ?_; clear hK2 K2
        refine AWp.cond (b := false) (by rfl) (fun hb => by cases hb) (fun _ => ?_)
        refine AWp.skip ?_
        simp only [Post.then, Post.inBlock]
        refine hK _ ?_; clear hK K
        refine AWp.reg ?_
        iterate 2 (refine AOps.consU fun K' hK' => ?_; simp (disch := omega) only [go_sem, ↓reduceIte]; refine hK' _ ?_; clear hK' K')
        refine AOps.nil ?_
        simp only [Post.then]
        refine hyd _ ?_
        have hwi : IntKind.i64.wrap ((i : Int) + 1) = ((i + 1 : Nat) : Int) := by
          simp only [walksPre, Bool.and_eq_true, decide_eq_true_eq] at hpre
          rw [wrap_i64_eq (by omega)]; omega
        rw [hwi]
        exact Sub.mk ⟨rfl, rfl, rfl, rfl, rfl, rfl, rfl, rfl, rfl, trivial⟩ ⟨rfl, rfl, rfl, rfl, rfl, trivial⟩ ⟨trivial, trivial, trivial, rfl, rfl, rfl, trivial, trivial, trivial, trivial⟩ (heapIn_refs ..) ⟨rfl, by simp only [headOn, heapIn, go_sem, ↓reduceIte], by simp only [headOn, ysOf_succ ho, hadd]; simp [lenc]⟩
      · simp only [go_sem, heapOn, capsOn, hmerge, Row.ren, renL, PV.ren, dl_ren, id, ghBack, ↓reduceIte]; refine hK' _ ?_; clear hK' K'
        iterate 1 (refine AOps.consU fun K' hK' => ?_; simp (disch := omega) only [go_sem, ↓reduceIte]; refine hK' _ ?_; clear hK' K')
        refine AOps.nil ?_
        simp only [Post.then]
        refine hK2 _ ?_; clear hK2 K2
        refine AWp.cond (b := true) (by rfl) (fun _ => ?_) (fun hb => by cases hb)
        refine AWp.seq fun K2 hK2 => AWp.reg ?_
        iterate 1 (refine AOps.consU fun K' hK' => ?_; simp (disch := omega) only [go_sem, ↓reduceIte]; refine hK' _ ?_; clear hK' K')
        refine AOps.nil ?_
        simp only [Post.then]
        refine hK2 _ ?_; clear hK2 K2
        refine AWp.ret ?_
        simp only [Post.then, Post.inBlock]
        obtain ⟨r, hr⟩ := ysOf_pre (offers := m.offers) (frm := frm) (length := length) (rounds := rounds) (k := k) (w := w) (s := s) (i := i + 1)
        refine on_leave (c := false) (by rfl) rfl hn ⟨ht1, ht2⟩ hf ⟨⟨rfl, rfl, rfl, rfl, trivial⟩, .inr ⟨lenc Walk.pd (ysOf m.offers frm length rounds k w s i) ++ part, rest ++ lenc Walk.pd r, ?_, rfl, ?_⟩⟩
        · rw [hr, ysOf_succ ho, hadd]
          have : lenc Walk.pd (ysOf m.offers frm length rounds k w s i ++ walkOn m.offers frm length rounds k ⟨w.list ++ [(i : Int)], timesN w.rate (ratioN o.Num o.Den), o.To⟩ (s.set w.to.toNat true) ++ r) = lenc Walk.pd (ysOf m.offers frm length rounds k w s i) ++ lenc Walk.pd (walkOn m.offers frm length rounds k ⟨w.list ++ [(i : Int)], timesN w.rate (ratioN o.Num o.Den), o.To⟩ (s.set w.to.toNat true)) ++ lenc Walk.pd r := by simp [lenc]
          rw [this, hpr]; simp
        · simp
end Go.Pv.Tryd

set_option linter.unusedSimpArgs false
set_option linter.unusedVariables false
namespace Go.Pv.Tryd
open Go.Proofs Go.Pv
theorem on_fn (m : Market) (frm length : Int) (rounds : Bool) (l : Nat) (all : List PD) (hpre : walksPre m frm length rounds = true) : ∀ (k : Nat) (w : Walk) (s : List Bool) (xs : List PD), OnOk m length w s k →
    xs ++ lenc Walk.pd (walkOn m.offers frm length rounds k w s) <+: all →
    FnG Tryd.prog G 94 (.d w.pd :: capsOn m frm length rounds) (heapOn m frm length rounds l m.n.toNat s) (some (l, all, xs, true)) (OnPost (lenc Walk.pd (walkOn m.offers frm length rounds k w s)) (heapOn m frm length rounds l m.n.toNat s) l all xs)
  | 0, w, s, xs, hk, _ => absurd hk.k2 (by omega)
  | k + 1, w, s, xs, hk, hall => by
    by_cases he : (w.list.length : Int) = length
    · exact on_end m frm length rounds l all k w s xs hk he hall
    · exact on_step m frm length rounds l all hpre k w s xs hk he (fun w' s' xs' => on_fn m frm length rounds l all hpre k w' s' xs') hall
@[go_sem] def walkCaps (m : Market) (frm length : Int) (rounds : Bool) : List PV := [.dptr 2 [Market.pd m] 0 0, .dptr 1 [.int .i64 length] 0 0, .dptr 1 [.int .i64 frm] 0 0, .dptr 1 [.bool rounds] 0 0]
theorem walks_seq (m : Market) (frm length : Int) (rounds : Bool) (hpre : walksPre m frm length rounds = true) : SeqFn Tryd.prog G 93 (walkCaps m frm length rounds) (lenc Walk.pd (walksL m frm length rounds)) := by
  intro l
  have hp := hpre
  simp only [walksPre, Bool.and_eq_true, decide_eq_true_eq] at hp
  obtain ⟨⟨hp1, hp2, hp3, hp4, hp5, hp6⟩, hp7⟩ := hp
  have hrep : lenc PD.bool (List.replicate m.n.toNat false) = List.replicate m.n.toNat (PD.bool false) := by simp [lenc]
  have hok : OnOk m length ⟨[], ⟨1, 1⟩, frm⟩ (List.replicate m.n.toNat false) (length.toNat + 1) := by
    refine ⟨by simp, by omega, by simp, hp3, hp4, by simp, by simp, by simp, by simp, .inl ?_⟩
    show (List.replicate m.n.toNat false)[frm.toNat]? = some false
    rw [List.getElem?_replicate, if_pos (by omega)]
  refine FnG.less (R := fun p _ g' => p = .tuple [] ∧ (g' = some (l, lenc Walk.pd (walksL m frm length rounds), lenc Walk.pd (walksL m frm length rounds), true) ∨ ∃ part rest, lenc Walk.pd (walksL m frm length rounds) = part ++ rest ∧ g' = some (l, lenc Walk.pd (walksL m frm length rounds), part, false))) ?_ ?_
  rotate_left
  · rintro p H' g' ⟨rfl, h⟩
    exact ⟨[], trivial, trivial, trivial, rfl, h⟩
  refine FnG.introD Tryd.func93 (by rfl) (by rw [Tryd.ntmps93]; simp [walkCaps]) ?_
  rw [Tryd.ntmps93]
  simp only [argEnv, walkCaps, Nat.reduceAdd]
  refine AWp.seq fun K hK => AWp.reg ?_
  iterate 1 (refine AOps.consU fun K' hK' => ?_; simp (disch := omega) only [go_sem, ↓reduceIte]; refine hK' _ ?_; clear hK' K')
  refine AOps.nil ?_
  simp only [Post.then]
  refine hK _ ?_; clear hK K
  refine AWp.seq fun K hK => AWp.reg ?_
  iterate 5 (refine AOps.consU fun K' hK' => ?_; simp (disch := omega) only [go_sem, ↓reduceIte]; refine hK' _ ?_; clear hK' K')
  refine AOps.nil ?_
  simp only [Post.then]
  refine hK _ ?_; clear hK K
  refine AWp.seq fun K hK => AWp.reg ?_
  iterate 1 (refine AOps.consU fun K' hK' => ?_; simp (disch := omega) only [go_sem, ↓reduceIte]; refine hK' _ ?_; clear hK' K')
  refine AOps.nil ?_
  simp only [Post.then]
  refine hK _ ?_; clear hK K
  refine AWp.seq fun K hK => AWp.reg ?_
  iterate 2 (refine AOps.consU fun K' hK' => ?_; simp (disch := omega) only [go_sem, ↓reduceIte]; refine hK' _ ?_; clear hK' K')
  refine AOps.nil ?_
  simp only [Post.then]
  refine hK _ ?_; clear hK K
  refine AWp.reg ?_
  iterate 4 (refine AOps.consU fun K' hK' => ?_; simp (disch := omega) only [go_sem, ↓reduceIte]; refine hK' _ ?_; clear hK' K')
  refine AOps.consC (by simp only [go_sem, ↓reduceIte]) fun K' hK' => ?_
  simp (disch := omega) only [go_sem, ↓reduceIte]
  have hf := on_fn m frm length rounds l (lenc Walk.pd (walksL m frm length rounds)) hpre (length.toNat + 1) ⟨[], ⟨1, 1⟩, frm⟩ (List.replicate m.n.toNat false) [] hok (by rw [List.nil_append]; exact List.prefix_refl _)
  refine OpT.callG (H := heapOn m frm length rounds l m.n.toNat (List.replicate m.n.toNat false)) (g := renOf [(1, 1000), (2, 1002), (3, 1001), (4, 1003)]) (gc := some (l, lenc Walk.pd (walksL m frm length rounds), [], true)) (by rfl) (by rfl) (by rfl) (by kernel_rfl) hf (Hand.of ?_ ?_) (.inr rfl) ?_ (by simp only [go_sem, ↓reduceIte]) ?_
  · simp only [go_sem, heapOn, capsOn, Row.ren, renL, PV.ren, dl_ren, Walk.pd, ↓reduceIte]
  · simp only [go_sem, heapOn, ↓reduceIte]
  · simp only [go_sem, handsOk, handOk, heapOn, capsOn, lstD, lenc, Walk.pd, List.map_nil, ↓reduceIte]
  rintro p H' g' ⟨rfl, hp⟩
  refine ⟨renOf [(1, 1000), (2, 1002), (3, 1001), (4, 1003)], Back.of ?_ ?_ ?_, ?_, ?_, ?_⟩
  · simp only [go_sem, heapOn, capsOn, Row.ren, renL, PV.ren, dl_ren, dl_length, dl_clean, clean, cleanL, or_true, true_or, ↓reduceIte]
  · simp only [go_sem, heapOn, ↓reduceIte]
  · simp only [go_sem, heapOn, ↓reduceIte]
  · rcases hp with ⟨rfl, _⟩ | ⟨_, _, _, rfl, _⟩ <;> trivial
  · rcases hp with ⟨rfl, _⟩ | ⟨_, _, _, rfl, _⟩ <;> trivial
  simp only [go_sem, heapOn, capsOn, hmerge, Row.ren, renL, PV.ren, dl_ren, ghBack, ↓reduceIte]; refine hK' _ ?_; clear hK' K'
  refine AOps.nil ?_
  simp only [Fin1]
  refine .inl ⟨.tuple [], ?_, by first | exact True.intro | rfl, rfl, ?_⟩
  · simp only [go_sem, Tryd.results93, ↓reduceIte]
  · rcases hp with ⟨_, rfl⟩ | ⟨part, rest, h1, _, rfl⟩
    · exact .inl rfl
    · exact .inr ⟨part, rest, h1, rfl⟩
theorem walks_fn (m : Market) (frm length : Int) (rounds : Bool) : PureFn Tryd.prog G 80 [.d (Market.pd m), .d (.int .i64 frm), .d (.int .i64 length), .d (.bool rounds)] (.func (.func 93) (walkCaps m frm length rounds)) := by
  refine PureFn.intro2 Tryd.func80 (by rfl) (by rw [Tryd.ntmps80]; simp) ?_
  rw [Tryd.ntmps80]
  simp only [argEnv, Nat.reduceAdd]
  refine AWp.seq fun K hK => AWp.reg ?_
  iterate 5 (refine AOps.consU fun K' hK' => ?_; simp (disch := omega) only [go_sem, ↓reduceIte]; refine hK' _ ?_; clear hK' K')
  refine AOps.nil ?_
  simp only [Post.then]
  refine hK _ ?_; clear hK K
  refine AWp.seq fun K hK => AWp.reg ?_
  iterate 2 (refine AOps.consU fun K' hK' => ?_; simp (disch := omega) only [go_sem, ↓reduceIte]; refine hK' _ ?_; clear hK' K')
  refine AOps.nil ?_
  simp only [Post.then]
  refine hK _ ?_; clear hK K
  refine AWp.ret ?_
  simp only [Go.Pv.Fin, Go.Pv.FinG]
  refine ⟨.func (.func 93) [.ptr 1000 0 0, .ptr 1002 0 0, .ptr 1001 0 0, .ptr 1003 0 0], ?_, True.intro, _, rfl, ?_⟩
  · simp only [go_sem, Tryd.results80, ↓reduceIte]
  · exact leV_refl _
end Go.Pv.Tryd



namespace Go.Pv.Tryd
open Go.Proofs Go.Pv
theorem m_rate_above_ok (a1 : Ratio) (b1 : Ratio) (r : Bool) (h : m_rate_above a1 b1 = some r) : PureFn Tryd.prog G 56 [.d (.agg [(.int .i64 a1.Num), (.int .i64 a1.Den)]), .d (.agg [(.int .i64 b1.Num), (.int .i64 b1.Den)])] (.d (.bool r)) := by
 unfold m_rate_above at h
 refine pf Tryd.func56 Tryd.ntmps56 ?_
 refine sg fun K k => ?_
 iterate 3 refine oo ?_
 refine AOps.nil (k _ ?_)
 refine sg fun K k => ?_
 iterate 12 refine oo ?_
 refine AOps.nil (k _ ?_)
 refine AWp.ret ?_
 cases h; exact rt
end Go.Pv.Tryd

namespace Go.Pv.Tryd
open Go.Proofs Go.Pv
theorem m_cmp_isNaN_ok (x1 : Int) (r : Bool) (h : m_cmp_isNaN x1 = some r) : PureFn Tryd.prog G 113 [.d (.int .i64 x1)] (.d (.bool r)) := by
 unfold m_cmp_isNaN at h
 refine pf Tryd.func113 Tryd.ntmps113 ?_
 refine sg fun K k => ?_
 refine oo ?_
 refine AOps.nil (k _ ?_)
 refine sg fun K k => ?_
 iterate 4 refine oo ?_
 refine AOps.nil (k _ ?_)
 refine AWp.ret ?_
 cases h; exact rt
end Go.Pv.Tryd

namespace Go.Pv.Tryd
open Go.Proofs Go.Pv
theorem m_cmp_Compare_ok (x1 : Int) (y1 : Int) (r : Int) (h : m_cmp_Compare x1 y1 = some r) : PureFn Tryd.prog G 97 [.d (.int .i64 x1), .d (.int .i64 y1)] (.d (.int .i64 r)) := by
 unfold m_cmp_Compare at h
 refine pf Tryd.func97 Tryd.ntmps97 ?_
 refine sg fun K k => ?_
 refine oo ?_
 refine AOps.nil (k _ ?_)
 refine sg fun K k => ?_
 refine oo ?_
 obtain ⟨r1, hx_1, h⟩ := bind_some h
 refine cl (m_cmp_isNaN_ok x1 _ hx_1) ?_
 refine oo ?_
 refine AOps.nil (k _ ?_)
 refine sg fun K k => ?_
 refine oo ?_
 obtain ⟨r2, hx_2, h⟩ := bind_some h
 refine cl (m_cmp_isNaN_ok y1 _ hx_2) ?_
 refine oo ?_
 refine AOps.nil (k _ ?_)
 refine AWp.seq fun _ K_3 => ?_
 refine sg fun K k => ?_
 refine oo ?_
 refine AOps.nil (k _ ?_)
 refine cd h (fun h => ?_) (fun h => ?_)
 ·refine AWp.seq fun _ K_5 => ?_
  refine sg fun K k => ?_
  refine oo ?_
  refine AOps.nil (k _ ?_)
  refine cd h (fun h => ?_) (fun h => ?_)
  ·refine sg fun K k => ?_
   refine oo ?_
   refine AOps.nil (k _ ?_)
   refine AWp.ret ?_
   cases h; exact rt
  ·refine AWp.skip ?_
   refine K_5 _ ?_
   refine sg fun K k => ?_
   refine oo ?_
   refine AOps.nil (k _ ?_)
   refine AWp.ret ?_
   cases h; exact rt
 ·refine AWp.skip ?_
  refine K_3 _ ?_
  refine AWp.seq fun _ K_7 => ?_
  refine sg fun K k => ?_
  refine oo ?_
  refine AOps.nil (k _ ?_)
  refine cd h (fun h => ?_) (fun h => ?_)
  ·refine sg fun K k => ?_
   refine oo ?_
   refine AOps.nil (k _ ?_)
   refine AWp.ret ?_
   cases h; exact rt
  ·refine AWp.skip ?_
   refine K_7 _ ?_
   refine AWp.seq fun _ K_9 => ?_
   refine sg fun K k => ?_
   iterate 3 refine oo ?_
   refine AOps.nil (k _ ?_)
   refine cd h (fun h => ?_) (fun h => ?_)
   ·refine sg fun K k => ?_
    refine oo ?_
    refine AOps.nil (k _ ?_)
    refine AWp.ret ?_
    cases h; exact rt
   ·refine AWp.skip ?_
    refine K_9 _ ?_
    refine AWp.seq fun _ K_11 => ?_
    refine sg fun K k => ?_
    iterate 3 refine oo ?_
    refine AOps.nil (k _ ?_)
    refine cd h (fun h => ?_) (fun h => ?_)
    ·refine sg fun K k => ?_
     refine oo ?_
     refine AOps.nil (k _ ?_)
     refine AWp.ret ?_
     cases h; exact rt
    ·refine AWp.skip ?_
     refine K_11 _ ?_
     refine sg fun K k => ?_
     refine oo ?_
     refine AOps.nil (k _ ?_)
     refine AWp.ret ?_
     cases h; exact rt
end Go.Pv.Tryd

namespace Go.Pv.Tryd
open Go.Proofs Go.Pv
theorem m_slices_Compare_ok (s11 : (List Int)) (s21 : (List Int)) (r : Int) (h : m_slices_Compare s11 s21 = some r) : PureFn Tryd.prog G 81 [.d (.imm 1 (lenc (PD.int .i64) s11)), .d (.imm 1 (lenc (PD.int .i64) s21))] (.d (.int .i64 r)) := by
 unfold m_slices_Compare at h
 refine pf Tryd.func81 Tryd.ntmps81 ?_
 refine sg fun K k => ?_
 refine oo ?_
 refine AOps.nil (k _ ?_)
 refine jm (ι := Unit) [0, 1] [] (fun i t => t) (fun i t => t) .inl h ?_ ?_
 ·intro _ hj_2 h
  refine sg fun K k => ?_
  iterate 3 refine oo ?_
  refine AOps.nil (k _ ?_)
  refine AWp.block ?_
  obtain ⟨x_7, hl_4, h2_5⟩ := bind_some hj_2
  refine lp (S := Int) [0, 1, 9, 10] [] (fun i t => (11, .d (.int .i64 i)) :: t) (fun i t => t) hl_4 ?_ ?_; exact sb; clear hl_4
  rintro v1 _ hb_6; unfold m_slices_Compare_l1 at hb_6; try dsimp only at hb_6
  try dsimp only
  refine sg fun K k => ?_
  refine oo ?_
  refine AOps.nil (k _ ?_)
  refine AWp.seq fun _ K_9 => ?_
  refine cd hb_6 (fun hb_6 => ?_) (fun hb_6 => ?_)
  ·refine AWp.skip ?_
   refine K_9 _ ?_
   refine AWp.seq fun _ K_11 => ?_
   refine AWp.block ?_
   refine sg fun K k => ?_
   obtain ⟨e1, ⟨f_12, f_13, f_14, f_15⟩, hb_6⟩ := idx_bind hb_6
   iterate 2 refine oo ?_
   refine oo ?_ (by intro K k; simp (disch := omega) only [go_sem, f_14, ↓reduceIte]; exact k)
   iterate 2 refine oo ?_
   refine AOps.nil (k _ ?_)
   refine AWp.seq fun _ K_16 => ?_
   refine sg fun K k => ?_
   iterate 4 refine oo ?_
   refine AOps.nil (k _ ?_)
   refine cd hb_6 (fun hb_6 => ?_) (fun hb_6 => ?_)
   ·refine sg fun K k => ?_
    refine oo ?_
    refine AOps.nil (k _ ?_)
    refine AWp.ret ?_
    refine lx hb_6 fun hx => ?_; cases hx; try dsimp only at h2_5
    cases h2_5; try dsimp only at h
    cases h; exact rt
   ·refine AWp.skip ?_
    refine K_16 _ ?_
    refine sg fun K k => ?_
    obtain ⟨e2, ⟨f_18, f_19, f_20, f_21⟩, hb_6⟩ := idx_bind hb_6
    iterate 3 refine oo ?_
    refine oo ?_ (by intro K k; simp (disch := omega) only [go_sem, f_20, ↓reduceIte]; exact k)
    refine oo ?_
    refine AOps.nil (k _ ?_)
    refine sg fun K k => ?_
    iterate 2 refine oo ?_
    obtain ⟨r1, hx_22, hb_6⟩ := bind_some hb_6
    refine cl (m_cmp_Compare_ok e1 e2 _ hx_22) ?_
    refine oo ?_
    refine AOps.nil (k _ ?_)
    refine sg fun K k => ?_
    iterate 2 refine oo ?_
    refine AOps.nil (k _ ?_)
    refine cd hb_6 (fun hb_6 => ?_) (fun hb_6 => ?_)
    ·refine sg fun K k => ?_
     iterate 2 refine oo ?_
     refine AOps.nil (k _ ?_)
     refine AWp.ret ?_
     refine lx hb_6 fun hx => ?_; cases hx; try dsimp only at h2_5
     cases h2_5; try dsimp only at h
     cases h; exact rt
    ·refine AWp.skip ?_
     refine K_11 _ ?_
     refine AWp.reg ?_
     iterate 2 refine oo ?_
     refine AOps.nil ?_
     exact ln hb_6 sb
  ·refine AWp.exit ?_
   refine lx hb_6 fun hx => ?_; cases hx; try dsimp only at h2_5
   exact ln h2_5 sb
 ·rintro _ h; dsimp only at h ⊢
  refine AWp.seq fun _ K_24 => ?_
  refine sg fun K k => ?_
  iterate 5 refine oo ?_
  refine AOps.nil (k _ ?_)
  refine cd h (fun h => ?_) (fun h => ?_)
  ·refine sg fun K k => ?_
   refine oo ?_
   refine AOps.nil (k _ ?_)
   refine AWp.ret ?_
   cases h; exact rt
  ·refine AWp.skip ?_
   refine K_24 _ ?_
   refine sg fun K k => ?_
   refine oo ?_
   refine AOps.nil (k _ ?_)
   refine AWp.ret ?_
   cases h; exact rt
end Go.Pv.Tryd

namespace Go.Pv.Tryd
open Go.Proofs Go.Pv
set_option maxHeartbeats 4000000 in
theorem m_rate_market_round_ok (m1 : Market) (r : (List Int)) (h : m_rate_market_round m1 = some r) : PureFn Tryd.prog G 54 [.d (.agg [(.int .i64 m1.n), (.imm 4 (lenc Offer.pd m1.offers))])] (.d (lstD 1 (lenc (PD.int .i64) r))) := by
 unfold m_rate_market_round at h
 refine pf Tryd.func54 Tryd.ntmps54 ?_
 refine sg fun K k => ?_
 iterate 2 refine oo ?_
 refine AOps.nil (k _ ?_)
 refine jm (ι := Unit) [] [] (fun i t => t) (fun i t => t) .inl h ?_ ?_
 ·intro _ hj_2 h
  refine sg fun K k => ?_
  refine oo ?_
  refine AOps.nil (k _ ?_)
  refine AWp.block ?_
  obtain ⟨x_7, hl_4, h2_5⟩ := bind_some hj_2
  refine lp (S := Int) [1] [1000] (fun i t => (3, .d (.int .i64 i)) :: t) (fun i t => t) hl_4 ?_ ?_; exact sb; clear hl_4
  rintro length1 _ hb_6; unfold m_rate_market_round_l1 at hb_6; try dsimp only at hb_6
  try dsimp only
  refine AWp.seq fun _ K_9 => ?_
  refine sg fun K k => ?_
  iterate 4 refine oo ?_
  refine AOps.nil (k _ ?_)
  refine cd hb_6 (fun hb_6 => ?_) (fun hb_6 => ?_)
  ·refine AWp.skip ?_
   refine K_9 _ ?_
   refine jm (ι := Unit) [1, 3] [1000] (fun i t => t) (fun i t => t) .inl hb_6 ?_ ?_
   ·intro _ hj_12 hb_6
    refine AWp.block ?_
    refine sg fun K k => ?_
    refine oo ?_
    refine AOps.nil (k _ ?_)
    refine jn (α := (List Int)) [1, 3] [1000] (fun i t => (4, .ptr 1001 0 0) :: t) (fun i t => (1001, ⟨27, 1, [.d (lstD 1 (lenc (PD.int .i64) i))]⟩) :: t) hj_12 ?_ ?_
    ·intro _ hj_14
     refine sg fun K k => ?_
     iterate 3 refine oo ?_
     refine AOps.nil (k _ ?_)
     refine AWp.block ?_
     obtain ⟨x_19, hl_16, h2_17⟩ := bind_some hj_14
     refine lp (S := (Int × (List Int))) [1, 3, 14] [1000] (fun i t => (4, .ptr 1001 0 0) :: (15, .d (.int .i64 i.1)) :: t) (fun i t => (1001, ⟨27, 1, [.d (lstD 1 (lenc (PD.int .i64) i.2))]⟩) :: t) hl_16 ?_ ?_; exact sb; clear hl_16
     rintro ⟨v1, c2⟩ _ hb_18; unfold m_rate_market_round_l2 at hb_18; try dsimp only at hb_18
     try dsimp only
     refine sg fun K k => ?_
     refine oo ?_
     refine AOps.nil (k _ ?_)
     refine AWp.seq fun _ K_21 => ?_
     refine cd hb_18 (fun hb_18 => ?_) (fun hb_18 => ?_)
     ·refine AWp.skip ?_
      refine K_21 _ ?_
      refine jn (α := (List Int)) [1, 3, 14, 15] [1000] (fun i t => (4, .ptr 1001 0 0) :: t) (fun i t => (1001, ⟨27, 1, [.d (lstD 1 (lenc (PD.int .i64) i))]⟩) :: t) hb_18 ?_ ?_
      ·intro _ hj_24
       refine AWp.block ?_
       refine sg fun K k => ?_
       iterate 2 refine oo ?_
       refine AOps.nil (k _ ?_)
       refine sg fun K k => ?_
       iterate 3 refine oo ?_
       obtain ⟨hg_25, hj_24⟩ := guardO_some hj_24
       refine AOps.consU fun K' hK' => ?_; simp (disch := omega) only [go_sem, ↓reduceIte]; refine OpT.call (by rfl) (by rfl) (by kernel_rfl) (walks_fn m1 v1 length1 true) (by exact ⟨rfl, rfl, rfl, rfl, trivial⟩) (by simp only [go_sem, ↓reduceIte]) ?_ (by simp only [go_sem]); simp only [go_sem, ↓reduceIte]; refine hK' _ ?_; clear hK' K'
       refine AOps.nil (k _ ?_)
       refine AWp.block ?_
       refine AWp.sub (τ := ⟨[(1, .ptr 1000 0 0), (3, .d (.int .i64 length1)), (4, .ptr 1001 0 0), (14, .d (.int .i64 m1.n)), (15, .d (.int .i64 v1)), (21, .func (.func 93) [.dptr 2 [(.agg [(.int .i64 m1.n), (.imm 4 (lenc Offer.pd m1.offers))])] 0 0, .dptr 1 [.int .i64 length1] 0 0, .dptr 1 [.int .i64 v1] 0 0, .dptr 1 [.bool true] 0 0])], [(1000, ⟨77, 2, [.d (.agg [(.int .i64 m1.n), (.imm 4 (lenc Offer.pd m1.offers))])]⟩), (1001, ⟨27, 1, [.d (lstD 1 (lenc (PD.int .i64) c2))]⟩)], [], none⟩) sb ?_
       obtain ⟨o_38, hl_39, h2_40⟩ := bind_some hj_24
       refine AWp.rangeL Walk.pd (walksL m1 v1 length1 true) (fun i_43 : (List Int) => [(1000, ⟨77, 2, [.d (.agg [(.int .i64 m1.n), (.imm 4 (lenc Offer.pd m1.offers))])]⟩), (1001, ⟨27, 1, [.d (lstD 1 (lenc (PD.int .i64) i_43))]⟩)]) 4 (fun i_43 : (List Int) => [(1000, ⟨77, 2, [.d (.agg [(.int .i64 m1.n), (.imm 4 (lenc Offer.pd m1.offers))])]⟩), (1001, ⟨27, 1, [.d (lstD 1 (lenc (PD.int .i64) i_43))]⟩)]) (m_rate_market_round_r3) c2 (by rfl) (by simp only [go_sem]) (by kernel_rfl) (walks_seq m1 v1 length1 true hg_25) rfl rfl (by rfl) (by decide) (by simp only [go_sem, clean, cleanL, dl_clean, ↓reduceIte]) (fun _ => by simp only [go_sem, clean, cleanL, dl_clean, ↓reduceIte]) (fun _ => by simp only [go_sem, clean, cleanL, dl_clean, ↓reduceIte]) hl_39 ?_ ?_ ?_
       ·rintro l_29 c4 x1 q_28 hraw_26
        have hb_27 := hraw_26
        unfold m_rate_market_round_r3 at hb_27
        try dsimp only at hb_27
        try dsimp only
        simp only [eput, ↓reduceIte, Nat.reduceEqDiff]
        refine AWp.reg ?_
        iterate 2 refine oo ?_
        refine AOps.nil ?_
        refine AWp.block ?_
        refine sg fun K k => ?_
        iterate 3 refine oo ?_
        obtain ⟨r1, hx_30, hb_27⟩ := bind_some hb_27
        refine cl (m_rate_above_ok x1.rate (⟨1, 1⟩ : Ratio) _ hx_30) ?_
        refine AOps.nil (k _ ?_)
        refine cd hb_27 (fun hb_27 => ?_) (fun hb_27 => ?_)
        ·refine jn (α := (List Int)) [1, 3, 14, 15, 22] [1000] (fun i t => (4, .ptr 1001 0 0) :: t) (fun i t => (1001, ⟨27, 1, [.d (lstD 1 (lenc (PD.int .i64) i))]⟩) :: t) hb_27 ?_ ?_
         ·intro _ hj_33
          refine sg fun K k => ?_
          iterate 3 refine oo ?_
          obtain ⟨b1, hc_34, hj_33⟩ := bind_some hj_33
          refine ct 6 [1, 3, 4, 6, 14, 15, 22] [1000, 1001, 1002] (fun  t => (35, .d (.bool b1)) :: t) ?_ ?_
          ·rcases bt ((c4).isEmpty) with hg_36 | hg_36
           ·rw [hg_36]
            rw [hg_36, cond_true] at hc_34
            iterate 6 refine oo ?_
            refine AOps.nil ?_
            cases hc_34
            exact sb
           ·rw [hg_36]
            rw [hg_36, cond_false] at hc_34
            iterate 3 refine oo ?_
            refine AOps.sub (τ := ⟨[(1, .ptr 1000 0 0), (3, .d (.int .i64 length1)), (4, .ptr 1001 0 0), (6, .ptr 1002 0 0), (14, .d (.int .i64 m1.n)), (15, .d (.int .i64 v1)), (22, .d (.agg [(lstD 1 (lenc (PD.int .i64) x1.list)), (.int .i64 x1.rate.Num), (.int .i64 x1.rate.Den), (.int .i64 x1.to)])), (29, .d (.bool false)), (30, .ptr 1002 0 0), (31, .d (.imm 1 (lenc (PD.int .i64) x1.list))), (32, .d (.imm 1 (lenc (PD.int .i64) c4)))], [(1000, ⟨77, 2, [.d (.agg [(.int .i64 m1.n), (.imm 4 (lenc Offer.pd m1.offers))])]⟩), (1001, ⟨27, 1, [.d (lstD 1 (lenc (PD.int .i64) c4))]⟩), (1002, ⟨83, 4, [.d (.agg [(lstD 1 (lenc (PD.int .i64) x1.list)), (.int .i64 x1.rate.Num), (.int .i64 x1.rate.Den), (.int .i64 x1.to)])]⟩)], [.func (.func 0) (envL [(1, .ptr 1000 0 0), (3, .d (.int .i64 length1)), (4, .ptr 1001 0 0), (14, .d (.int .i64 m1.n)), (15, .d (.int .i64 v1)), (21, .func (.func 93) [.dptr 2 [(.agg [(.int .i64 m1.n), (.imm 4 (lenc Offer.pd m1.offers))])] 0 0, .dptr 1 [.int .i64 length1] 0 0, .dptr 1 [.int .i64 v1] 0 0, .dptr 1 [.bool true] 0 0])])], none⟩) sc ?_
            obtain ⟨r2, hx_35, hc_34⟩ := bind_some hc_34
            refine cl (m_slices_Compare_ok x1.list c4 _ hx_35) ?_
            iterate 2 refine oo ?_
            refine AOps.nil ?_
            cases hc_34
            exact sb
          refine AOps.nil (k _ ?_)
          refine cd hj_33 (fun hj_33 => ?_) (fun hj_33 => ?_)
          ·refine AWp.reg ?_
           iterate 3 refine oo ?_
           refine AOps.nil ?_
           cases hj_33; exact sb
          ·refine AWp.skip ?_
           cases hj_33; exact sb
         ·rintro c5 hb_27; dsimp only at hb_27 ⊢
          refine AWp.exit ?_
          show _ = _ ∧ ∃ y, _ = some (Sum.inr y) ∧ _
          exact ⟨rfl, c5, hraw_26.trans hb_27.symm, sb⟩
        ·refine AWp.skip ?_
         show ∃ s, _ = some (Sum.inl s) ∧ _
         exact ⟨c4, hraw_26.trans hb_27.symm, sb⟩
       ·rintro c4 hx_41
        rw [hx_41] at h2_40
        try dsimp only at h2_40
        try dsimp only
        simp only [Post.then, Post.inBlock, ↓reduceIte, Nat.reduceEqDiff]
        cases h2_40; exact sb
       ·rintro c41 hy_42
        rw [hy_42] at h2_40
        try dsimp only at h2_40
        try dsimp only
        simp only [Post.then, Post.inBlock, ↓reduceIte, Nat.reduceEqDiff]
        cases h2_40; exact sb
      ·rintro c3 hb_18; dsimp only at hb_18 ⊢
       refine AWp.reg ?_
       iterate 2 refine oo ?_
       refine AOps.nil ?_
       exact ln hb_18 sb
     ·refine AWp.exit ?_
      refine lx hb_18 fun hx => ?_; cases hx; try dsimp only at h2_17
      cases h2_17; exact sb
    ·rintro c1 hj_12; dsimp only at hj_12 ⊢
     refine sg fun K k => ?_
     iterate 2 refine oo ?_
     refine AOps.nil (k _ ?_)
     refine cd hj_12 (fun hj_12 => ?_) (fun hj_12 => ?_)
     ·refine sg fun K k => ?_
      iterate 2 refine oo ?_
      refine AOps.nil (k _ ?_)
      refine AWp.ret ?_
      cases hj_12; try dsimp only at hb_6
      refine lx hb_6 fun hx => ?_; cases hx; try dsimp only at h2_5
      cases h2_5; try dsimp only at h
      cases h; exact rt
     ·refine AWp.skip ?_
      exact ln hj_12 sb
   ·rintro _ hb_6; dsimp only at hb_6 ⊢
    refine AWp.reg ?_
    iterate 3 refine oo ?_
    refine AOps.nil ?_
    exact ln hb_6 sb
  ·refine AWp.exit ?_
   refine lx hb_6 fun hx => ?_; cases hx; try dsimp only at h2_5
   exact ln h2_5 sb
 ·rintro _ h; dsimp only at h ⊢
  refine sg fun K k => ?_
  refine oo ?_
  refine AOps.nil (k _ ?_)
  refine AWp.ret ?_
  cases h; exact rt
end Go.Pv.Tryd

namespace Go.Pv.Tryd
open Go.Proofs Go.Pv
set_option maxHeartbeats 4000000 in
theorem m_rate_market_best_ok (m1 : Market) (from1 : Int) (to1 : Int) (r : (Walk × Bool)) (h : m_rate_market_best m1 from1 to1 = some r) : PureFn Tryd.prog G 55 [.d (.agg [(.int .i64 m1.n), (.imm 4 (lenc Offer.pd m1.offers))]), .d (.int .i64 from1), .d (.int .i64 to1)] (.tuple [.d (.agg [(lstD 1 (lenc (PD.int .i64) r.1.list)), (.int .i64 r.1.rate.Num), (.int .i64 r.1.rate.Den), (.int .i64 r.1.to)]), .d (.bool r.2)]) := by
 unfold m_rate_market_best at h
 refine pf Tryd.func55 Tryd.ntmps55 ?_
 refine sg fun K k => ?_
 iterate 4 refine oo ?_
 refine AOps.nil (k _ ?_)
 refine AWp.seq fun _ K_1 => ?_
 refine sg fun K k => ?_
 iterate 3 refine oo ?_
 refine AOps.nil (k _ ?_)
 refine cd h (fun h => ?_) (fun h => ?_)
 ·refine sg fun K k => ?_
  iterate 4 refine oo ?_
  refine AOps.nil (k _ ?_)
  refine AWp.ret ?_
  cases h; exact rt
 ·refine AWp.skip ?_
  refine K_1 _ ?_
  refine sg fun K k => ?_
  iterate 5 refine oo ?_
  refine AOps.nil (k _ ?_)
  refine jn (α := (Walk × Bool)) [6] [1002] (fun i t => (8, .ptr 1003 0 0) :: (9, .ptr 1004 0 0) :: t) (fun i t => (1003, ⟨83, 4, [.d (.agg [(lstD 1 (lenc (PD.int .i64) i.1.list)), (.int .i64 i.1.rate.Num), (.int .i64 i.1.rate.Den), (.int .i64 i.1.to)])]⟩) :: (1004, ⟨4, 1, [.d (.bool i.2)]⟩) :: t) h ?_ ?_
  ·intro _ hj_4
   refine sg fun K k => ?_
   refine oo ?_
   refine AOps.nil (k _ ?_)
   refine AWp.block ?_
   obtain ⟨x_9, hl_6, h2_7⟩ := bind_some hj_4
   refine lp (S := (Int × Walk × Bool)) [1, 3, 5, 6] [1000, 1001, 1002] (fun i t => (8, .ptr 1003 0 0) :: (9, .ptr 1004 0 0) :: (10, .d (.int .i64 i.1)) :: t) (fun i t => (1003, ⟨83, 4, [.d (.agg [(lstD 1 (lenc (PD.int .i64) i.2.1.list)), (.int .i64 i.2.1.rate.Num), (.int .i64 i.2.1.rate.Den), (.int .i64 i.2.1.to)])]⟩) :: (1004, ⟨4, 1, [.d (.bool i.2.2)]⟩) :: t) hl_6 ?_ ?_; exact sb; clear hl_6
   rintro ⟨length1, c3, c4⟩ _ hb_8; unfold m_rate_market_best_l1 at hb_8; try dsimp only at hb_8
   try dsimp only
   refine AWp.seq fun _ K_11 => ?_
   refine sg fun K k => ?_
   iterate 4 refine oo ?_
   refine AOps.nil (k _ ?_)
   refine cd hb_8 (fun hb_8 => ?_) (fun hb_8 => ?_)
   ·refine AWp.skip ?_
    refine K_11 _ ?_
    refine jn (α := (Walk × Bool)) [1, 3, 5, 6, 10] [1000, 1001, 1002] (fun i t => (8, .ptr 1003 0 0) :: (9, .ptr 1004 0 0) :: t) (fun i t => (1003, ⟨83, 4, [.d (.agg [(lstD 1 (lenc (PD.int .i64) i.1.list)), (.int .i64 i.1.rate.Num), (.int .i64 i.1.rate.Den), (.int .i64 i.1.to)])]⟩) :: (1004, ⟨4, 1, [.d (.bool i.2)]⟩) :: t) hb_8 ?_ ?_
    ·intro _ hj_14
     refine AWp.block ?_
     refine sg fun K k => ?_
     iterate 3 refine oo ?_
     obtain ⟨hg_15, hj_14⟩ := guardO_some hj_14
     refine AOps.consU fun K' hK' => ?_; simp (disch := omega) only [go_sem, ↓reduceIte]; refine OpT.call (by rfl) (by rfl) (by kernel_rfl) (walks_fn m1 from1 length1 false) (by exact ⟨rfl, rfl, rfl, rfl, trivial⟩) (by simp only [go_sem, ↓reduceIte]) ?_ (by simp only [go_sem]); simp only [go_sem, ↓reduceIte]; refine hK' _ ?_; clear hK' K'
     refine AOps.nil (k _ ?_)
     refine AWp.block ?_
     refine AWp.sub (τ := ⟨[(1, .d (.int .i64 from1)), (3, .ptr 1000 0 0), (5, .ptr 1001 0 0), (6, .ptr 1002 0 0), (8, .ptr 1003 0 0), (9, .ptr 1004 0 0), (10, .d (.int .i64 length1)), (27, .func (.func 93) [.dptr 2 [(.agg [(.int .i64 m1.n), (.imm 4 (lenc Offer.pd m1.offers))])] 0 0, .dptr 1 [.int .i64 length1] 0 0, .dptr 1 [.int .i64 from1] 0 0, .dptr 1 [.bool false] 0 0])], [(1000, ⟨77, 2, [.d (.agg [(.int .i64 m1.n), (.imm 4 (lenc Offer.pd m1.offers))])]⟩), (1001, ⟨3, 1, [.d (.int .i64 to1)]⟩), (1002, ⟨83, 4, [.d (.agg [.nilslice, (.int .i64 0), (.int .i64 0), (.int .i64 0)])]⟩), (1003, ⟨83, 4, [.d (.agg [(lstD 1 (lenc (PD.int .i64) c3.list)), (.int .i64 c3.rate.Num), (.int .i64 c3.rate.Den), (.int .i64 c3.to)])]⟩), (1004, ⟨4, 1, [.d (.bool c4)]⟩)], [], none⟩) sb ?_
     obtain ⟨o_26, hl_27, h2_28⟩ := bind_some hj_14
     refine AWp.rangeL Walk.pd (walksL m1 from1 length1 false) (fun i_31 : (Walk × Bool) => [(1000, ⟨77, 2, [.d (.agg [(.int .i64 m1.n), (.imm 4 (lenc Offer.pd m1.offers))])]⟩), (1001, ⟨3, 1, [.d (.int .i64 to1)]⟩), (1002, ⟨83, 4, [.d (.agg [.nilslice, (.int .i64 0), (.int .i64 0), (.int .i64 0)])]⟩), (1003, ⟨83, 4, [.d (.agg [(lstD 1 (lenc (PD.int .i64) i_31.1.list)), (.int .i64 i_31.1.rate.Num), (.int .i64 i_31.1.rate.Den), (.int .i64 i_31.1.to)])]⟩), (1004, ⟨4, 1, [.d (.bool i_31.2)]⟩)]) 0 (fun i_31 : (Walk × Bool) => [(1000, ⟨77, 2, [.d (.agg [(.int .i64 m1.n), (.imm 4 (lenc Offer.pd m1.offers))])]⟩), (1001, ⟨3, 1, [.d (.int .i64 to1)]⟩), (1002, ⟨83, 4, [.d (.agg [.nilslice, (.int .i64 0), (.int .i64 0), (.int .i64 0)])]⟩), (1003, ⟨83, 4, [.d (.agg [(lstD 1 (lenc (PD.int .i64) i_31.1.list)), (.int .i64 i_31.1.rate.Num), (.int .i64 i_31.1.rate.Den), (.int .i64 i_31.1.to)])]⟩), (1004, ⟨4, 1, [.d (.bool i_31.2)]⟩)]) (m_rate_market_best_r2 to1) (c3, c4) (by rfl) (by simp only [go_sem]) (by kernel_rfl) (walks_seq m1 from1 length1 false hg_15) rfl rfl (by rfl) (by decide) (by simp only [go_sem, clean, cleanL, dl_clean, ↓reduceIte]) (fun _ => by simp only [go_sem, clean, cleanL, dl_clean, ↓reduceIte]) (fun _ => by simp only [go_sem, clean, cleanL, dl_clean, ↓reduceIte]) hl_27 ?_ ?_ ?_
     ·rintro l_19 ⟨c7, c8⟩ x1 q_18 hraw_16
      have hb_17 := hraw_16
      unfold m_rate_market_best_r2 at hb_17
      try dsimp only at hb_17
      try dsimp only
      simp only [eput, ↓reduceIte, Nat.reduceEqDiff]
      refine AWp.reg ?_
      iterate 2 refine oo ?_
      refine AOps.nil ?_
      refine AWp.block ?_
      refine sg fun K k => ?_
      iterate 5 refine oo ?_
      obtain ⟨b1, hc_20, hb_17⟩ := bind_some hb_17
      refine ct 10 [8, 9, 11] [1000, 1001, 1002, 1003, 1004, 1005] (fun  t => (43, .d (.bool b1)) :: t) ?_ ?_
      ·rcases bt (decide (x1.to = to1)) with hg_24 | hg_24
       ·rw [hg_24]
        rw [hg_24, cond_true] at hc_20
        iterate 3 refine oo ?_
        obtain ⟨b2, hc_21, hc_20⟩ := bind_some hc_20
        refine ct 6 [8, 9, 11, 33] [1000, 1001, 1002, 1003, 1004, 1005] (fun  t => (42, .d (.bool b2)) :: t) ?_ ?_
        ·rcases bt (!c8) with hg_23 | hg_23
         ·rw [hg_23]
          rw [hg_23, cond_true] at hc_21
          iterate 6 refine oo ?_
          refine AOps.nil ?_
          cases hc_21
          exact sb
         ·rw [hg_23]
          rw [hg_23, cond_false] at hc_21
          iterate 4 refine oo ?_
          obtain ⟨r1, hx_22, hc_21⟩ := bind_some hc_21
          refine cl (m_rate_above_ok x1.rate c7.rate _ hx_22) ?_
          refine oo ?_
          refine AOps.nil ?_
          cases hc_21
          exact sb
        refine oo ?_
        refine AOps.nil ?_
        cases hc_20
        exact sb
       ·rw [hg_24]
        rw [hg_24, cond_false] at hc_20
        iterate 10 refine oo ?_
        refine AOps.nil ?_
        cases hc_20
        exact sb
      refine AOps.nil (k _ ?_)
      refine cd hb_17 (fun hb_17 => ?_) (fun hb_17 => ?_)
      ·refine AWp.reg ?_
       iterate 3 refine oo ?_
       refine AOps.nil ?_
       show ∃ s, _ = some (Sum.inl s) ∧ _
       exact ⟨(x1, true), hraw_16.trans hb_17.symm, sb⟩
      ·refine AWp.skip ?_
       show ∃ s, _ = some (Sum.inl s) ∧ _
       exact ⟨(c7, c8), hraw_16.trans hb_17.symm, sb⟩
     ·rintro ⟨c7, c8⟩ hx_29
      rw [hx_29] at h2_28
      try dsimp only at h2_28
      try dsimp only
      simp only [Post.then, Post.inBlock, ↓reduceIte, Nat.reduceEqDiff]
      cases h2_28; exact sb
     ·rintro ⟨c71, c81⟩ hy_30
      rw [hy_30] at h2_28
      try dsimp only at h2_28
      try dsimp only
      simp only [Post.then, Post.inBlock, ↓reduceIte, Nat.reduceEqDiff]
      cases h2_28
    ·rintro ⟨c5, c6⟩ hb_8; dsimp only at hb_8 ⊢
     refine AWp.reg ?_
     iterate 3 refine oo ?_
     refine AOps.nil ?_
     exact ln hb_8 sb
   ·refine AWp.exit ?_
    refine lx hb_8 fun hx => ?_; cases hx; try dsimp only at h2_7
    cases h2_7; exact sb
  ·rintro ⟨c1, c2⟩ h; dsimp only at h ⊢
   refine sd mo fun K k => ?_
   iterate 4 refine dd ?_
   refine DOps.nil (by kernel_rfl) (k _ ?_)
   refine AWp.ret ?_
   cases h; exact rt
end Go.Pv.Tryd

namespace Go.Pv.Tryd
open Go.Proofs Go.Pv
set_option maxHeartbeats 4000000 in
theorem m_rate_Prices_ok (n1 : Int) (offers1 : (List Offer)) (r : ((List Ratio) × Int)) (h : m_rate_Prices n1 offers1 = some r) : PureFn Tryd.prog G 23 [.d (.int .i64 n1), .d (.imm 4 (lenc Offer.pd offers1))] (.tuple [.d (.imm 2 (lenc Ratio.pd r.1)), .d (.int .i64 r.2)]) := by
 unfold m_rate_Prices at h
 refine pf Tryd.func23 Tryd.ntmps23 ?_
 refine sg fun K k => ?_
 iterate 2 refine oo ?_
 refine AOps.nil (k _ ?_)
 refine sg fun K k => ?_
 iterate 2 refine oo ?_
 obtain ⟨r1, hx_1, h⟩ := bind_some h
 refine cl (m_rate_of_ok n1 offers1 _ hx_1) ?_
 iterate 6 refine oo ?_
 refine AOps.nil (k _ ?_)
 refine AWp.seq fun _ K_2 => ?_
 refine sg fun K k => ?_
 iterate 2 refine oo ?_
 refine AOps.nil (k _ ?_)
 refine cd h (fun h => ?_) (fun h => ?_)
 ·refine sg fun K k => ?_
  iterate 3 refine oo ?_
  refine AOps.nil (k _ ?_)
  refine AWp.ret ?_
  cases h; exact rt
 ·refine AWp.skip ?_
  refine K_2 _ ?_
  refine AWp.seq fun _ K_4 => ?_
  refine sg fun K k => ?_
  refine oo ?_
  obtain ⟨r2, hx_5, h⟩ := bind_some h
  refine cl (m_rate_market_round_ok r1.1 _ hx_5) ?_
  refine oo ?_
  refine AOps.nil (k _ ?_)
  refine cd h (fun h => ?_) (fun h => ?_)
  ·refine sg fun K k => ?_
   iterate 2 refine oo ?_
   refine AOps.nil (k _ ?_)
   refine AWp.ret ?_
   cases h; exact rt
  ·refine AWp.skip ?_
   refine K_4 _ ?_
   refine sg fun K k => ?_
   refine oo ?_
   refine AOps.nil (k _ ?_)
   refine AWp.sub (Sub.void 8 26 2 1001 (by rfl) (by rfl) (by decide) (by decide)) ?_
   simp only [eput, hput, reduceCtorEq, ↓reduceIte, Nat.reduceAdd, Nat.reduceMul, Nat.reduceLT, Nat.reduceLeDiff, Nat.reduceEqDiff, Nat.reduceBEq, Int.reduceToNat]
   refine jn (α := (List Ratio)) [] [] (fun i t => (8, .slc 1001 0 i.length) :: t) (fun i t => (1001, ⟨26, 2, dl (lenc Ratio.pd i)⟩) :: t) h ?_ ?_
   ·intro _ hj_8
    refine sg fun K k => ?_
    iterate 2 refine oo ?_
    refine AOps.nil (k _ ?_)
    refine AWp.block ?_
    obtain ⟨x_13, hl_10, h2_11⟩ := bind_some hj_8
    refine lp (S := (Int × (List Ratio))) [0, 6, 26] [1000] (fun i t => (8, .slc 1001 0 i.2.length) :: (27, .d (.int .i64 i.1)) :: t) (fun i t => (1001, ⟨26, 2, dl (lenc Ratio.pd i.2)⟩) :: t) hl_10 ?_ ?_; exact sb; clear hl_10
    rintro ⟨v1, L2⟩ _ hb_12; unfold m_rate_Prices_l1 at hb_12; try dsimp only at hb_12
    try dsimp only
    refine sg fun K k => ?_
    refine oo ?_
    refine AOps.nil (k _ ?_)
    refine AWp.seq fun _ K_15 => ?_
    refine cd hb_12 (fun hb_12 => ?_) (fun hb_12 => ?_)
    ·refine AWp.skip ?_
     refine K_15 _ ?_
     refine jn (α := (List Ratio)) [0, 6, 26, 27] [1000] (fun i t => (8, .slc 1001 0 i.length) :: t) (fun i t => (1001, ⟨26, 2, dl (lenc Ratio.pd i)⟩) :: t) hb_12 ?_ ?_
     ·intro _ hj_18
      refine AWp.block ?_
      refine sg fun K k => ?_
      iterate 2 refine oo ?_
      refine AOps.nil (k _ ?_)
      refine sg fun K k => ?_
      iterate 3 refine oo ?_
      refine AOps.nil (k _ ?_)
      refine jn (α := Ratio) [0, 6, 8, 26, 27] [1000, 1001] (fun i t => (10, .ptr 1002 0 0) :: t) (fun i t => (1002, ⟨26, 2, [.d (.agg [(.int .i64 i.Num), (.int .i64 i.Den)])]⟩) :: t) hj_18 ?_ ?_
      ·intro _ hj_20
       refine sg fun K k => ?_
       iterate 2 refine oo ?_
       refine AOps.nil (k _ ?_)
       refine AWp.block ?_
       obtain ⟨x_25, hl_22, h2_23⟩ := bind_some hj_20
       refine lp (S := (Int × Ratio)) [0, 6, 8, 9, 26, 27, 31] [1000, 1001] (fun i t => (10, .ptr 1002 0 0) :: (32, .d (.int .i64 i.1)) :: t) (fun i t => (1002, ⟨26, 2, [.d (.agg [(.int .i64 i.2.Num), (.int .i64 i.2.Den)])]⟩) :: t) hl_22 ?_ ?_; exact sb; clear hl_22
       rintro ⟨v2, c2⟩ _ hb_24; unfold m_rate_Prices_l2 at hb_24; try dsimp only at hb_24
       try dsimp only
       refine sg fun K k => ?_
       refine oo ?_
       refine AOps.nil (k _ ?_)
       refine AWp.seq fun _ K_27 => ?_
       refine cd hb_24 (fun hb_24 => ?_) (fun hb_24 => ?_)
       ·refine AWp.skip ?_
        refine K_27 _ ?_
        refine jn (α := Ratio) [0, 6, 8, 9, 26, 27, 31, 32] [1000, 1001] (fun i t => (10, .ptr 1002 0 0) :: t) (fun i t => (1002, ⟨26, 2, [.d (.agg [(.int .i64 i.Num), (.int .i64 i.Den)])]⟩) :: t) hb_24 ?_ ?_
        ·intro _ hj_30
         refine AWp.block ?_
         refine sg fun K k => ?_
         iterate 2 refine oo ?_
         refine AOps.nil (k _ ?_)
         refine sg fun K k => ?_
         iterate 3 refine oo ?_
         obtain ⟨r3, hx_31, hj_30⟩ := bind_some hj_30
         refine cl (m_rate_market_best_ok r1.1 v1 v2 _ hx_31) ?_
         iterate 6 refine oo ?_
         refine AOps.nil (k _ ?_)
         refine sg fun K k => ?_
         iterate 2 refine oo ?_
         obtain ⟨b1, hc_32, hj_30⟩ := bind_some hj_30
         refine ct 5 [0, 6, 8, 9, 10, 12, 26, 27, 31, 32] [1000, 1001, 1002, 1003] (fun  t => (48, .d (.bool b1)) :: t) ?_ ?_
         ·rcases bt r3.2 with hg_34 | hg_34
          ·rw [hg_34]
           rw [hg_34, cond_true] at hc_32
           iterate 3 refine oo ?_
           obtain ⟨r4, hx_33, hc_32⟩ := bind_some hc_32
           refine cl (m_rate_above_ok r3.1.rate c2 _ hx_33) ?_
           refine oo ?_
           refine AOps.nil ?_
           cases hc_32
           exact sb
          ·rw [hg_34]
           rw [hg_34, cond_false] at hc_32
           iterate 5 refine oo ?_
           refine AOps.nil ?_
           cases hc_32
           exact sb
         refine AOps.nil (k _ ?_)
         refine cd hj_30 (fun hj_30 => ?_) (fun hj_30 => ?_)
         ·refine AWp.reg ?_
          iterate 3 refine oo ?_
          refine AOps.nil ?_
          cases hj_30; exact sb
         ·refine AWp.skip ?_
          cases hj_30; exact sb
        ·rintro c3 hb_24; dsimp only at hb_24 ⊢
         refine AWp.reg ?_
         iterate 2 refine oo ?_
         refine AOps.nil ?_
         exact ln hb_24 sb
       ·refine AWp.exit ?_
        refine lx hb_24 fun hx => ?_; cases hx; try dsimp only at h2_23
        cases h2_23; exact sb
      ·rintro c1 hj_18; dsimp only at hj_18 ⊢
       refine AWp.reg ?_
       iterate 2 refine oo ?_
       refine ol ?_
       obtain ⟨hg_36, hj_18⟩ := guardO_some hj_18
       iterate 2 refine oo ?_
       refine AOps.nil ?_
       cases hj_18; exact sb
     ·rintro L3 hb_12; dsimp only at hb_12 ⊢
      refine AWp.reg ?_
      iterate 2 refine oo ?_
      refine AOps.nil ?_
      exact ln hb_12 sb
    ·refine AWp.exit ?_
     refine lx hb_12 fun hx => ?_; cases hx; try dsimp only at h2_11
     cases h2_11; exact sb
   ·rintro L1 h; dsimp only at h ⊢
    refine sg fun K k => ?_
    iterate 3 refine oo ?_
    refine AOps.nil (k _ ?_)
    refine AWp.ret ?_
    cases h; exact rt
end Go.Pv.Tryd

namespace Go.Pv.Tryd
open Go.Proofs Go.Pv
theorem m_rate_Best_ok (n1 : Int) (offers1 : (List Offer)) (from1 : Int) (to1 : Int) (r : (Ratio × (List Int) × Int)) (h : m_rate_Best n1 offers1 from1 to1 = some r) : PureFn Tryd.prog G 20 [.d (.int .i64 n1), .d (.imm 4 (lenc Offer.pd offers1)), .d (.int .i64 from1), .d (.int .i64 to1)] (.tuple [.d (.agg [(.int .i64 r.1.Num), (.int .i64 r.1.Den)]), .d (.imm 1 (lenc (PD.int .i64) r.2.1)), .d (.int .i64 r.2.2)]) := by
 unfold m_rate_Best at h
 refine pf Tryd.func20 Tryd.ntmps20 ?_
 refine sg fun K k => ?_
 iterate 3 refine oo ?_
 refine AOps.nil (k _ ?_)
 refine sg fun K k => ?_
 iterate 2 refine oo ?_
 obtain ⟨r1, hx_1, h⟩ := bind_some h
 refine cl (m_rate_of_ok n1 offers1 _ hx_1) ?_
 iterate 6 refine oo ?_
 refine AOps.nil (k _ ?_)
 refine AWp.seq fun _ K_2 => ?_
 refine AWp.block ?_
 refine sg fun K k => ?_
 iterate 3 refine oo ?_
 refine AOps.nil (k _ ?_)
 refine cd h (fun h => ?_) (fun h => ?_)
 ·refine sg fun K k => ?_
  iterate 5 refine oo ?_
  refine AOps.nil (k _ ?_)
  refine AWp.ret ?_
  cases h; exact rt
 ·refine sg fun K k => ?_
  iterate 2 refine oo ?_
  obtain ⟨r2, hx_4, h⟩ := bind_some h
  refine cl (m_rate_market_has_ok r1.1 from1 _ hx_4) ?_
  iterate 2 refine oo ?_
  obtain ⟨b1, hc_5, h⟩ := bind_some h
  refine ct 5 [2, 3, 8, 11] [1000, 1001] (fun  t => (36, .d (.bool b1)) :: t) ?_ ?_
  ·rcases bt (!r2) with hg_7 | hg_7
   ·rw [hg_7]
    rw [hg_7, cond_true] at hc_5
    iterate 5 refine oo ?_
    refine AOps.nil ?_
    cases hc_5
    exact sb
   ·rw [hg_7]
    rw [hg_7, cond_false] at hc_5
    iterate 2 refine oo ?_
    obtain ⟨r3, hx_6, hc_5⟩ := bind_some hc_5
    refine cl (m_rate_market_has_ok r1.1 to1 _ hx_6) ?_
    iterate 2 refine oo ?_
    refine AOps.nil ?_
    cases hc_5
    exact sb
  refine oo ?_
  refine AOps.nil (k _ ?_)
  refine cd h (fun h => ?_) (fun h => ?_)
  ·refine sg fun K k => ?_
   iterate 4 refine oo ?_
   refine AOps.nil (k _ ?_)
   refine AWp.ret ?_
   cases h; exact rt
  ·refine sg fun K k => ?_
   refine oo ?_
   obtain ⟨r4, hx_9, h⟩ := bind_some h
   refine cl (m_rate_market_round_ok r1.1 _ hx_9) ?_
   iterate 2 refine oo ?_
   refine AOps.nil (k _ ?_)
   refine cd h (fun h => ?_) (fun h => ?_)
   ·refine sg fun K k => ?_
    iterate 4 refine oo ?_
    refine AOps.nil (k _ ?_)
    refine AWp.ret ?_
    cases h; exact rt
   ·refine AWp.skip ?_
    refine K_2 _ ?_
    refine sg fun K k => ?_
    iterate 3 refine oo ?_
    obtain ⟨r5, hx_11, h⟩ := bind_some h
    refine cl (m_rate_market_best_ok r1.1 from1 to1 _ hx_11) ?_
    iterate 6 refine oo ?_
    refine AOps.nil (k _ ?_)
    refine AWp.seq fun _ K_12 => ?_
    refine sg fun K k => ?_
    iterate 2 refine oo ?_
    refine AOps.nil (k _ ?_)
    refine cd h (fun h => ?_) (fun h => ?_)
    ·refine sg fun K k => ?_
     iterate 4 refine oo ?_
     refine AOps.nil (k _ ?_)
     refine AWp.ret ?_
     cases h; exact rt
    ·refine AWp.skip ?_
     refine K_12 _ ?_
     refine sd mo fun K k => ?_
     iterate 7 refine dd ?_
     refine DOps.nil (by kernel_rfl) (k _ ?_)
     refine AWp.ret ?_
     cases h; exact rt
end Go.Pv.Tryd

namespace Go.Pv.Tryd
open Go.Proofs Go.Pv
theorem m_rate_Round_ok (n1 : Int) (offers1 : (List Offer)) (r : ((List Int) × Int)) (h : m_rate_Round n1 offers1 = some r) : PureFn Tryd.prog G 26 [.d (.int .i64 n1), .d (.imm 4 (lenc Offer.pd offers1))] (.tuple [.d (.imm 1 (lenc (PD.int .i64) r.1)), .d (.int .i64 r.2)]) := by
 unfold m_rate_Round at h
 refine pf Tryd.func26 Tryd.ntmps26 ?_
 refine sg fun K k => ?_
 iterate 2 refine oo ?_
 refine AOps.nil (k _ ?_)
 refine sg fun K k => ?_
 iterate 2 refine oo ?_
 obtain ⟨r1, hx_1, h⟩ := bind_some h
 refine cl (m_rate_of_ok n1 offers1 _ hx_1) ?_
 iterate 6 refine oo ?_
 refine AOps.nil (k _ ?_)
 refine AWp.seq fun _ K_2 => ?_
 refine sg fun K k => ?_
 iterate 2 refine oo ?_
 refine AOps.nil (k _ ?_)
 refine cd h (fun h => ?_) (fun h => ?_)
 ·refine sg fun K k => ?_
  iterate 3 refine oo ?_
  refine AOps.nil (k _ ?_)
  refine AWp.ret ?_
  cases h; exact rt
 ·refine AWp.skip ?_
  refine K_2 _ ?_
  refine sg fun K k => ?_
  refine oo ?_
  obtain ⟨r2, hx_4, h⟩ := bind_some h
  refine cl (m_rate_market_round_ok r1.1 _ hx_4) ?_
  refine oo ?_
  refine AOps.nil (k _ ?_)
  refine AWp.seq fun _ K_5 => ?_
  refine sg fun K k => ?_
  iterate 2 refine oo ?_
  refine AOps.nil (k _ ?_)
  refine cd h (fun h => ?_) (fun h => ?_)
  ·refine sg fun K k => ?_
   iterate 2 refine oo ?_
   refine AOps.nil (k _ ?_)
   refine AWp.ret ?_
   cases h; exact rt
  ·refine AWp.skip ?_
   refine K_5 _ ?_
   refine sg fun K k => ?_
   iterate 3 refine oo ?_
   refine AOps.nil (k _ ?_)
   refine AWp.ret ?_
   cases h; exact rt
end Go.Pv.Tryd

namespace Go.Pv.Tryd
open Go.Proofs Go.Pv
theorem m_cocketlaw01_same_ok (a1 : (List Int)) (b1 : (List Int)) (r : Bool) (h : m_cocketlaw01_same a1 b1 = some r) : PureFn Tryd.prog G 21 [.d (.imm 1 (lenc (PD.int .i64) a1)), .d (.imm 1 (lenc (PD.int .i64) b1))] (.d (.bool r)) := by
 unfold m_cocketlaw01_same at h
 refine pf Tryd.func21 Tryd.ntmps21 ?_
 refine sg fun K k => ?_
 refine oo ?_
 refine AOps.nil (k _ ?_)
 refine AWp.seq fun _ K_1 => ?_
 refine sg fun K k => ?_
 iterate 5 refine oo ?_
 refine AOps.nil (k _ ?_)
 refine cd h (fun h => ?_) (fun h => ?_)
 ·refine sg fun K k => ?_
  refine oo ?_
  refine AOps.nil (k _ ?_)
  refine AWp.ret ?_
  cases h; exact rt
 ·refine AWp.skip ?_
  refine K_1 _ ?_
  refine jm (ι := Unit) [] [] (fun i t => t) (fun i t => t) .inl h ?_ ?_
  ·intro _ hj_4 h
   refine sg fun K k => ?_
   refine oo ?_
   refine AOps.nil (k _ ?_)
   refine AWp.block ?_
   obtain ⟨x_9, hl_6, h2_7⟩ := bind_some hj_4
   refine lp (S := Int) [0, 1] [] (fun i t => (5, .d (.int .i64 i)) :: t) (fun i t => t) hl_6 ?_ ?_; exact sb; clear hl_6
   rintro i1 _ hb_8; unfold m_cocketlaw01_same_l1 at hb_8; try dsimp only at hb_8
   try dsimp only
   refine AWp.seq fun _ K_11 => ?_
   refine sg fun K k => ?_
   iterate 4 refine oo ?_
   refine AOps.nil (k _ ?_)
   refine cd hb_8 (fun hb_8 => ?_) (fun hb_8 => ?_)
   ·refine AWp.skip ?_
    refine K_11 _ ?_
    refine AWp.seq fun _ K_13 => ?_
    refine AWp.block ?_
    refine sd mo fun K k => ?_
    obtain ⟨e1, ⟨f_14, f_15, f_16, f_17⟩, hb_8⟩ := idx_bind hb_8
    iterate 3 refine dd ?_
    refine dd ?_ (by intro K k; simp (disch := omega) only [go_sem, f_16, ↓reduceIte]; exact k)
    obtain ⟨e2, ⟨f_18, f_19, f_20, f_21⟩, hb_8⟩ := idx_bind hb_8
    iterate 3 refine dd ?_
    refine dd ?_ (by intro K k; simp (disch := omega) only [go_sem, f_20, ↓reduceIte]; exact k)
    refine dd ?_
    refine DOps.nil (by kernel_rfl) (k _ ?_)
    refine cd hb_8 (fun hb_8 => ?_) (fun hb_8 => ?_)
    ·refine sg fun K k => ?_
     refine oo ?_
     refine AOps.nil (k _ ?_)
     refine AWp.ret ?_
     refine lx hb_8 fun hx => ?_; cases hx; try dsimp only at h2_7
     cases h2_7; try dsimp only at h
     cases h; exact rt
    ·refine AWp.skip ?_
     refine K_13 _ ?_
     refine AWp.reg ?_
     iterate 3 refine oo ?_
     refine AOps.nil ?_
     exact ln hb_8 sb
   ·refine AWp.exit ?_
    refine lx hb_8 fun hx => ?_; cases hx; try dsimp only at h2_7
    exact ln h2_7 sb
  ·rintro _ h; dsimp only at h ⊢
   refine sg fun K k => ?_
   refine oo ?_
   refine AOps.nil (k _ ?_)
   refine AWp.ret ?_
   cases h; exact rt
end Go.Pv.Tryd

namespace Go.Pv.Tryd
open Go.Proofs Go.Pv
set_option maxHeartbeats 4000000 in
theorem m_cocketlaw01_alive_ok (r : Bool) (h : m_cocketlaw01_alive = some r) : PureFn Tryd.prog G 18 [] (.d (.bool r)) := by
 unfold m_cocketlaw01_alive at h
 refine pf Tryd.func18 Tryd.ntmps18 ?_
 refine sg fun K k => ?_
 refine oo ?_
 refine AOps.nil (k _ ?_)
 refine sg fun K k => ?_
 obtain ⟨r1, hx_1, h⟩ := bind_some h
 refine clRow 1000 (m_cocketlaw01_ring_ok _ hx_1) ?_
 refine AOps.sub (τ := ⟨[(10, .d (.imm 4 (lenc Offer.pd r1)))], [], [], none⟩) sc ?_
 obtain ⟨r2, hx_2, h⟩ := bind_some h
 refine cl (m_rate_Prices_ok 3 r1 _ hx_2) ?_
 iterate 5 refine oo ?_
 refine AOps.nil (k _ ?_)
 refine sg fun K k => ?_
 obtain ⟨r3, hx_3, h⟩ := bind_some h
 refine clRow 1000 (m_cocketlaw01_ring_ok _ hx_3) ?_
 refine AOps.sub (τ := ⟨[(1, .d (.imm 2 (lenc Ratio.pd r2.1))), (2, .d (.int .i64 r2.2)), (15, .d (.imm 4 (lenc Offer.pd r3)))], [], [], none⟩) sc ?_
 obtain ⟨r4, hx_4, h⟩ := bind_some h
 refine cl (m_rate_Best_ok 3 r3 0 2 _ hx_4) ?_
 iterate 8 refine oo ?_
 refine AOps.nil (k _ ?_)
 refine sg fun K k => ?_
 obtain ⟨r5, hx_5, h⟩ := bind_some h
 refine clRow 1001 (m_cocketlaw01_ring_ok _ hx_5) ?_
 refine oo ?_
 refine AOps.nil (k _ ?_)
 refine sg fun K k => ?_
 obtain ⟨e1, ⟨f_6, f_7, f_8, f_9⟩, h⟩ := idx_bind h
 try simp only [Int.reduceToNat] at f_8 f_9
 iterate 3 refine oo ?_
 refine oo ?_ (by intro K k; simp (disch := omega) only [go_sem, f_8, ↓reduceIte]; exact k)
 refine AOps.nil (k _ ?_)
 refine sg fun K k => ?_
 refine oo ?_
 refine AOps.sub (τ := ⟨[(1, .d (.imm 2 (lenc Ratio.pd r2.1))), (2, .d (.int .i64 r2.2)), (3, .ptr 1000 0 0), (4, .d (.imm 1 (lenc (PD.int .i64) r4.2.1))), (5, .d (.int .i64 r4.2.2)), (25, .d (.imm 4 (lenc Offer.pd (r5.set 2 (⟨e1.From, e1.To, e1.Num, 2⟩ : Offer)))))], [(1000, ⟨26, 2, [.d (.agg [(.int .i64 r4.1.Num), (.int .i64 r4.1.Den)])]⟩)], [], none⟩) sc ?_
 obtain ⟨r6, hx_10, h⟩ := bind_some h
 refine cl (m_rate_Round_ok 3 (r5.set 2 (⟨e1.From, e1.To, e1.Num, 2⟩ : Offer)) _ hx_10) ?_
 iterate 5 refine oo ?_
 refine AOps.nil (k _ ?_)
 refine sg fun K k => ?_
 iterate 3 refine oo ?_
 refine ct 4 [1, 3, 4, 5, 7, 8] [1000] (fun  t => (35, .d (.bool ((decide (r2.2 = 0)) && (decide ((r2.1.length : Int) = 3))))) :: t) ?_ ?_
 ·rcases bt (decide (r2.2 = 0)) with hg_12 | hg_12
  ·rw [hg_12]
   iterate 4 refine oo ?_
   refine AOps.nil ?_
   exact sb
  ·rw [hg_12]
   iterate 4 refine oo ?_
   refine AOps.nil ?_
   exact sb
 refine oo ?_
 obtain ⟨b1, hc_13, h⟩ := bind_some h
 refine ct 6 [3, 4, 5, 7, 8] [1000] (fun  t => (42, .d (.bool b1)) :: t) ?_ ?_
 ·rcases bt ((decide (r2.2 = 0)) && (decide ((r2.1.length : Int) = 3))) with hg_18 | hg_18
  ·rw [hg_18]
   rw [hg_18, cond_true] at hc_13
   obtain ⟨e2, ⟨f_14, f_15, f_16, f_17⟩, hc_13⟩ := idx_bind hc_13
   try simp only [Int.reduceToNat] at f_16 f_17
   iterate 2 refine oo ?_
   refine oo ?_ (by intro K k; simp (disch := omega) only [go_sem, f_16, ↓reduceIte]; exact k)
   refine oo ?_
   refine ox ?_ (by intro K k; simp (disch := omega) only [go_sem, fsl26, ↓reduceIte]; exact k)
   refine oo ?_
   refine AOps.nil ?_
   cases hc_13
   exact sb
  ·rw [hg_18]
   rw [hg_18, cond_false] at hc_13
   iterate 6 refine oo ?_
   refine AOps.nil ?_
   cases hc_13
   exact sb
 refine oo ?_
 refine ct 3 [3, 4, 7, 8] [1000] (fun  t => (46, .d (.bool (b1 && (decide (r4.2.2 = 0))))) :: t) ?_ ?_
 ·rcases bt b1 with hg_20 | hg_20
  ·rw [hg_20]
   iterate 3 refine oo ?_
   refine AOps.nil ?_
   exact sb
  ·rw [hg_20]
   iterate 3 refine oo ?_
   refine AOps.nil ?_
   exact sb
 refine oo ?_
 refine ct 4 [4, 7, 8] [] (fun  t => (51, .d (.bool ((b1 && (decide (r4.2.2 = 0))) && ((r4.1.Num == 3) && (r4.1.Den == 1))))) :: t) ?_ ?_
 ·rcases bt (b1 && (decide (r4.2.2 = 0))) with hg_22 | hg_22
  ·rw [hg_22]
   iterate 2 refine oo ?_
   refine ox ?_ (by intro K k; simp (disch := omega) only [go_sem, fsl26, ↓reduceIte]; exact k)
   refine oo ?_
   refine AOps.nil ?_
   exact sb
  ·rw [hg_22]
   iterate 4 refine oo ?_
   refine AOps.nil ?_
   exact sb
 refine oo ?_
 refine ct 4 [7, 8] [] (fun  t => (56, .d (.bool (((b1 && (decide (r4.2.2 = 0))) && ((r4.1.Num == 3) && (r4.1.Den == 1))) && (decide ((r4.2.1.length : Int) = 2))))) :: t) ?_ ?_
 ·rcases bt ((b1 && (decide (r4.2.2 = 0))) && ((r4.1.Num == 3) && (r4.1.Den == 1))) with hg_24 | hg_24
  ·rw [hg_24]
   iterate 4 refine oo ?_
   refine AOps.nil ?_
   exact sb
  ·rw [hg_24]
   iterate 4 refine oo ?_
   refine AOps.nil ?_
   exact sb
 refine oo ?_
 refine ct 3 [7] [] (fun  t => (60, .d (.bool ((((b1 && (decide (r4.2.2 = 0))) && ((r4.1.Num == 3) && (r4.1.Den == 1))) && (decide ((r4.2.1.length : Int) = 2))) && (decide (r6.2 = 0))))) :: t) ?_ ?_
 ·rcases bt (((b1 && (decide (r4.2.2 = 0))) && ((r4.1.Num == 3) && (r4.1.Den == 1))) && (decide ((r4.2.1.length : Int) = 2))) with hg_26 | hg_26
  ·rw [hg_26]
   iterate 3 refine oo ?_
   refine AOps.nil ?_
   exact sb
  ·rw [hg_26]
   iterate 3 refine oo ?_
   refine AOps.nil ?_
   exact sb
 refine oo ?_
 obtain ⟨b2, hc_27, h⟩ := bind_some h
 refine ct 4 [] [] (fun  t => (65, .d (.bool b2)) :: t) ?_ ?_
 ·rcases bt ((((b1 && (decide (r4.2.2 = 0))) && ((r4.1.Num == 3) && (r4.1.Den == 1))) && (decide ((r4.2.1.length : Int) = 2))) && (decide (r6.2 = 0))) with hg_29 | hg_29
  ·rw [hg_29]
   rw [hg_29, cond_true] at hc_27
   refine oo ?_
   refine ol ?_
   obtain ⟨r7, hx_28, hc_27⟩ := bind_some hc_27
   refine cl (m_cocketlaw01_same_ok r6.1 [0, 1, 2] _ hx_28) ?_
   refine oo ?_
   refine AOps.nil ?_
   cases hc_27
   exact sb
  ·rw [hg_29]
   rw [hg_29, cond_false] at hc_27
   iterate 4 refine oo ?_
   refine AOps.nil ?_
   cases hc_27
   exact sb
 refine oo ?_
 refine AOps.nil (k _ ?_)
 refine AWp.ret ?_
 cases h; exact rt
end Go.Pv.Tryd

namespace Go.Pv.Tryd
open Go.Proofs Go.Pv
set_option maxHeartbeats 4000000 in
theorem m_cocketref01_Good_ok (n1 : Int) (l1 : (List Offer)) (r : Int) (h : m_cocketref01_Good n1 l1 = some r) : PureFn Tryd.prog G 28 [.d (.int .i64 n1), .d (.imm 4 (lenc Offer.pd l1))] (.d (.int .i64 r)) := by
 unfold m_cocketref01_Good at h
 refine pf Tryd.func28 Tryd.ntmps28 ?_
 refine sg fun K k => ?_
 refine oo ?_
 refine AOps.nil (k _ ?_)
 refine AWp.seq fun _ K_1 => ?_
 refine sg fun K k => ?_
 iterate 3 refine oo ?_
 refine ct 3 [0, 1] [] (fun  t => (12, .d (.bool ((decide (n1 < 2)) || (decide (6 < n1))))) :: t) ?_ ?_
 ·rcases bt (decide (n1 < 2)) with hg_3 | hg_3
  ·rw [hg_3]
   iterate 3 refine oo ?_
   refine AOps.nil ?_
   exact sb
  ·rw [hg_3]
   iterate 3 refine oo ?_
   refine AOps.nil ?_
   exact sb
 refine AOps.nil (k _ ?_)
 refine cd h (fun h => ?_) (fun h => ?_)
 ·refine sg fun K k => ?_
  refine oo ?_
  refine AOps.nil (k _ ?_)
  refine AWp.ret ?_
  cases h; exact rt
 ·refine AWp.skip ?_
  refine K_1 _ ?_
  refine AWp.seq fun _ K_5 => ?_
  refine sg fun K k => ?_
  iterate 3 refine oo ?_
  refine AOps.nil (k _ ?_)
  refine cd h (fun h => ?_) (fun h => ?_)
  ·refine sg fun K k => ?_
   refine oo ?_
   refine AOps.nil (k _ ?_)
   refine AWp.ret ?_
   cases h; exact rt
  ·refine AWp.skip ?_
   refine K_5 _ ?_
   refine jm (ι := Unit) [] [] (fun i t => t) (fun i t => t) .inl h ?_ ?_
   ·intro _ hj_8 h
    refine sg fun K k => ?_
    refine oo ?_
    refine AOps.nil (k _ ?_)
    refine AWp.block ?_
    obtain ⟨x_13, hl_10, h2_11⟩ := bind_some hj_8
    refine lp (S := Int) [0, 1] [] (fun i t => (5, .d (.int .i64 i)) :: t) (fun i t => t) hl_10 ?_ ?_; exact sb; clear hl_10
    rintro i1 _ hb_12; unfold m_cocketref01_Good_l1 at hb_12; try dsimp only at hb_12
    try dsimp only
    refine AWp.seq fun _ K_15 => ?_
    refine sg fun K k => ?_
    iterate 4 refine oo ?_
    refine AOps.nil (k _ ?_)
    refine cd hb_12 (fun hb_12 => ?_) (fun hb_12 => ?_)
    ·refine AWp.skip ?_
     refine K_15 _ ?_
     refine AWp.seq fun _ K_17 => ?_
     refine AWp.block ?_
     refine sg fun K k => ?_
     obtain ⟨e1, ⟨f_18, f_19, f_20, f_21⟩, hb_12⟩ := idx_bind hb_12
     iterate 3 refine oo ?_
     refine oo ?_ (by intro K k; simp (disch := omega) only [go_sem, f_20, ↓reduceIte]; exact k)
     iterate 2 refine oo ?_
     refine AOps.nil (k _ ?_)
     refine sg fun K k => ?_
     iterate 4 refine oo ?_
     refine ct 5 [0, 1, 5, 6] [1000] (fun  t => (34, .d (.bool ((decide (e1.From < 0)) || (decide (n1 ≤ e1.From))))) :: t) ?_ ?_
     ·rcases bt (decide (e1.From < 0)) with hg_23 | hg_23
      ·rw [hg_23]
       iterate 5 refine oo ?_
       refine AOps.nil ?_
       exact sb
      ·rw [hg_23]
       iterate 5 refine oo ?_
       refine AOps.nil ?_
       exact sb
     refine oo ?_
     refine ct 4 [0, 1, 5, 6] [1000] (fun  t => (39, .d (.bool (((decide (e1.From < 0)) || (decide (n1 ≤ e1.From))) || (decide (e1.To < 0))))) :: t) ?_ ?_
     ·rcases bt ((decide (e1.From < 0)) || (decide (n1 ≤ e1.From))) with hg_25 | hg_25
      ·rw [hg_25]
       iterate 4 refine oo ?_
       refine AOps.nil ?_
       exact sb
      ·rw [hg_25]
       iterate 4 refine oo ?_
       refine AOps.nil ?_
       exact sb
     refine oo ?_
     refine ct 5 [0, 1, 5, 6] [1000] (fun  t => (45, .d (.bool ((((decide (e1.From < 0)) || (decide (n1 ≤ e1.From))) || (decide (e1.To < 0))) || (decide (n1 ≤ e1.To))))) :: t) ?_ ?_
     ·rcases bt (((decide (e1.From < 0)) || (decide (n1 ≤ e1.From))) || (decide (e1.To < 0))) with hg_27 | hg_27
      ·rw [hg_27]
       iterate 5 refine oo ?_
       refine AOps.nil ?_
       exact sb
      ·rw [hg_27]
       iterate 5 refine oo ?_
       refine AOps.nil ?_
       exact sb
     refine oo ?_
     refine ct 6 [0, 1, 5, 6] [1000] (fun  t => (52, .d (.bool (((((decide (e1.From < 0)) || (decide (n1 ≤ e1.From))) || (decide (e1.To < 0))) || (decide (n1 ≤ e1.To))) || (decide (e1.From = e1.To))))) :: t) ?_ ?_
     ·rcases bt ((((decide (e1.From < 0)) || (decide (n1 ≤ e1.From))) || (decide (e1.To < 0))) || (decide (n1 ≤ e1.To))) with hg_29 | hg_29
      ·rw [hg_29]
       iterate 6 refine oo ?_
       refine AOps.nil ?_
       exact sb
      ·rw [hg_29]
       iterate 6 refine oo ?_
       refine AOps.nil ?_
       exact sb
     refine oo ?_
     refine ct 4 [0, 1, 5, 6] [1000] (fun  t => (57, .d (.bool ((((((decide (e1.From < 0)) || (decide (n1 ≤ e1.From))) || (decide (e1.To < 0))) || (decide (n1 ≤ e1.To))) || (decide (e1.From = e1.To))) || (decide (e1.Num < 1))))) :: t) ?_ ?_
     ·rcases bt (((((decide (e1.From < 0)) || (decide (n1 ≤ e1.From))) || (decide (e1.To < 0))) || (decide (n1 ≤ e1.To))) || (decide (e1.From = e1.To))) with hg_31 | hg_31
      ·rw [hg_31]
       iterate 4 refine oo ?_
       refine AOps.nil ?_
       exact sb
      ·rw [hg_31]
       iterate 4 refine oo ?_
       refine AOps.nil ?_
       exact sb
     refine oo ?_
     refine ct 4 [0, 1, 5, 6] [1000] (fun  t => (62, .d (.bool (((((((decide (e1.From < 0)) || (decide (n1 ≤ e1.From))) || (decide (e1.To < 0))) || (decide (n1 ≤ e1.To))) || (decide (e1.From = e1.To))) || (decide (e1.Num < 1))) || (decide (50 < e1.Num))))) :: t) ?_ ?_
     ·rcases bt ((((((decide (e1.From < 0)) || (decide (n1 ≤ e1.From))) || (decide (e1.To < 0))) || (decide (n1 ≤ e1.To))) || (decide (e1.From = e1.To))) || (decide (e1.Num < 1))) with hg_33 | hg_33
      ·rw [hg_33]
       iterate 4 refine oo ?_
       refine AOps.nil ?_
       exact sb
      ·rw [hg_33]
       iterate 4 refine oo ?_
       refine AOps.nil ?_
       exact sb
     refine oo ?_
     refine ct 4 [0, 1, 5, 6] [1000] (fun  t => (67, .d (.bool ((((((((decide (e1.From < 0)) || (decide (n1 ≤ e1.From))) || (decide (e1.To < 0))) || (decide (n1 ≤ e1.To))) || (decide (e1.From = e1.To))) || (decide (e1.Num < 1))) || (decide (50 < e1.Num))) || (decide (e1.Den < 1))))) :: t) ?_ ?_
     ·rcases bt (((((((decide (e1.From < 0)) || (decide (n1 ≤ e1.From))) || (decide (e1.To < 0))) || (decide (n1 ≤ e1.To))) || (decide (e1.From = e1.To))) || (decide (e1.Num < 1))) || (decide (50 < e1.Num))) with hg_35 | hg_35
      ·rw [hg_35]
       iterate 4 refine oo ?_
       refine AOps.nil ?_
       exact sb
      ·rw [hg_35]
       iterate 4 refine oo ?_
       refine AOps.nil ?_
       exact sb
     refine oo ?_
     refine ct 4 [0, 1, 5] [] (fun  t => (72, .d (.bool (((((((((decide (e1.From < 0)) || (decide (n1 ≤ e1.From))) || (decide (e1.To < 0))) || (decide (n1 ≤ e1.To))) || (decide (e1.From = e1.To))) || (decide (e1.Num < 1))) || (decide (50 < e1.Num))) || (decide (e1.Den < 1))) || (decide (50 < e1.Den))))) :: t) ?_ ?_
     ·rcases bt ((((((((decide (e1.From < 0)) || (decide (n1 ≤ e1.From))) || (decide (e1.To < 0))) || (decide (n1 ≤ e1.To))) || (decide (e1.From = e1.To))) || (decide (e1.Num < 1))) || (decide (50 < e1.Num))) || (decide (e1.Den < 1))) with hg_37 | hg_37
      ·rw [hg_37]
       iterate 4 refine oo ?_
       refine AOps.nil ?_
       exact sb
      ·rw [hg_37]
       iterate 4 refine oo ?_
       refine AOps.nil ?_
       exact sb
     refine AOps.nil (k _ ?_)
     refine cd hb_12 (fun hb_12 => ?_) (fun hb_12 => ?_)
     ·refine sg fun K k => ?_
      refine oo ?_
      refine AOps.nil (k _ ?_)
      refine AWp.ret ?_
      refine lx hb_12 fun hx => ?_; cases hx; try dsimp only at h2_11
      cases h2_11; try dsimp only at h
      cases h; exact rt
     ·refine AWp.skip ?_
      refine K_17 _ ?_
      refine AWp.reg ?_
      iterate 3 refine oo ?_
      refine AOps.nil ?_
      exact ln hb_12 sb
    ·refine AWp.exit ?_
     refine lx hb_12 fun hx => ?_; cases hx; try dsimp only at h2_11
     exact ln h2_11 sb
   ·rintro _ h; dsimp only at h ⊢
    refine sg fun K k => ?_
    refine oo ?_
    refine AOps.nil (k _ ?_)
    refine AWp.ret ?_
    cases h; exact rt
end Go.Pv.Tryd

namespace Go.Pv.Tryd
open Go.Proofs Go.Pv
theorem m_cocketref01_trim_ok (d1 : (List Int)) (r : (List Int)) (h : m_cocketref01_trim d1 = some r) : PureFn Tryd.prog G 98 [.d (.imm 1 (lenc (PD.int .i64) d1))] (.d (.imm 1 (lenc (PD.int .i64) r))) := by
 unfold m_cocketref01_trim at h
 refine pf Tryd.func98 Tryd.ntmps98 ?_
 refine sg fun K k => ?_
 refine oo ?_
 refine AOps.nil (k _ ?_)
 refine sg fun K k => ?_
 iterate 3 refine oo ?_
 refine AOps.nil (k _ ?_)
 refine jn (α := Int) [0] [] (fun i t => (3, .d (.int .i64 i)) :: t) (fun i t => t) h ?_ ?_
 ·intro _ hj_2
  refine AWp.block ?_
  obtain ⟨x_7, hl_4, h2_5⟩ := bind_some hj_2
  refine lp (S := Int) [0] [] (fun i t => (3, .d (.int .i64 i)) :: t) (fun i t => t) hl_4 ?_ ?_; exact sb; clear hl_4
  rintro n2 _ hb_6; unfold m_cocketref01_trim_l1 at hb_6; try dsimp only at hb_6
  try dsimp only
  refine AWp.seq fun _ K_9 => ?_
  refine sg fun K k => ?_
  iterate 3 refine oo ?_
  obtain ⟨b1, hc_10, hb_6⟩ := bind_some hb_6
  refine ct 7 [0, 3] [] (fun  t => (17, .d (.bool b1)) :: t) ?_ ?_
  ·rcases bt (decide (0 < n2)) with hg_15 | hg_15
   ·rw [hg_15]
    rw [hg_15, cond_true] at hc_10
    obtain ⟨e1, ⟨f_11, f_12, f_13, f_14⟩, hc_10⟩ := idx_bind hc_10
    iterate 4 refine oo ?_
    refine oo ?_ (by intro K k; simp (disch := omega) only [go_sem, f_13, ↓reduceIte]; exact k)
    iterate 2 refine oo ?_
    refine AOps.nil ?_
    cases hc_10
    exact sb
   ·rw [hg_15]
    rw [hg_15, cond_false] at hc_10
    iterate 7 refine oo ?_
    refine AOps.nil ?_
    cases hc_10
    exact sb
  refine AOps.nil (k _ ?_)
  refine cd hb_6 (fun hb_6 => ?_) (fun hb_6 => ?_)
  ·refine AWp.skip ?_
   refine K_9 _ ?_
   refine AWp.block ?_
   refine AWp.reg ?_
   iterate 3 refine oo ?_
   refine AOps.nil ?_
   exact ln hb_6 sb
  ·refine AWp.exit ?_
   refine lx hb_6 fun hx => ?_; cases hx; try dsimp only at h2_5
   cases h2_5; exact sb
 ·rintro n1 h; dsimp only at h ⊢
  refine sg fun K k => ?_
  refine oo ?_
  refine AOps.nil (k _ ?_)
  refine AWp.sub (Sub.void 4 3 1 1000 (by rfl) (by rfl) (by decide) (by decide)) ?_
  simp only [eput, hput, reduceCtorEq, ↓reduceIte, Nat.reduceAdd, Nat.reduceMul, Nat.reduceLT, Nat.reduceLeDiff, Nat.reduceEqDiff, Nat.reduceBEq, Int.reduceToNat]
  refine jn (α := (List Int)) [] [] (fun i t => (4, .slc 1000 0 i.length) :: t) (fun i t => (1000, ⟨3, 1, dl (lenc (PD.int .i64) i)⟩) :: t) h ?_ ?_
  ·intro _ hj_18
   refine sg fun K k => ?_
   refine oo ?_
   refine AOps.nil (k _ ?_)
   refine AWp.block ?_
   obtain ⟨x_23, hl_20, h2_21⟩ := bind_some hj_18
   refine lp (S := (Int × (List Int))) [0, 3] [] (fun i t => (4, .slc 1000 0 i.2.length) :: (5, .d (.int .i64 i.1)) :: t) (fun i t => (1000, ⟨3, 1, dl (lenc (PD.int .i64) i.2)⟩) :: t) hl_20 ?_ ?_; exact sb; clear hl_20
   rintro ⟨i1, L2⟩ _ hb_22; unfold m_cocketref01_trim_l2 at hb_22; try dsimp only at hb_22
   try dsimp only
   refine AWp.seq fun _ K_25 => ?_
   refine sg fun K k => ?_
   iterate 3 refine oo ?_
   refine AOps.nil (k _ ?_)
   refine cd hb_22 (fun hb_22 => ?_) (fun hb_22 => ?_)
   ·refine AWp.skip ?_
    refine K_25 _ ?_
    refine AWp.seq fun _ K_27 => ?_
    refine AWp.block ?_
    refine AWp.reg ?_
    obtain ⟨e2, ⟨f_28, f_29, f_30, f_31⟩, hb_22⟩ := idx_bind hb_22
    iterate 4 refine oo ?_
    refine oo ?_ (by intro K k; simp (disch := omega) only [go_sem, f_30, ↓reduceIte]; exact k)
    refine ol ?_
    obtain ⟨hg_32, hb_22⟩ := guardO_some hb_22
    iterate 2 refine oo ?_
    refine AOps.nil ?_
    refine K_27 _ ?_
    refine AWp.reg ?_
    iterate 3 refine oo ?_
    refine AOps.nil ?_
    exact ln hb_22 sb
   ·refine AWp.exit ?_
    refine lx hb_22 fun hx => ?_; cases hx; try dsimp only at h2_21
    cases h2_21; exact sb
  ·rintro L1 h; dsimp only at h ⊢
   refine sg fun K k => ?_
   iterate 2 refine oo ?_
   refine AOps.nil (k _ ?_)
   refine AWp.ret ?_
   cases h; exact rt
end Go.Pv.Tryd

namespace Go.Pv.Tryd
open Go.Proofs Go.Pv
theorem m_cocketref01_whole_ok (neg1 : Bool) (d1 : (List Int)) (r : Big) (h : m_cocketref01_whole neg1 d1 = some r) : PureFn Tryd.prog G 84 [.d (.bool neg1), .d (.imm 1 (lenc (PD.int .i64) d1))] (.d (.agg [(.bool r.Neg), (.imm 1 (lenc (PD.int .i64) r.D))])) := by
 unfold m_cocketref01_whole at h
 refine pf Tryd.func84 Tryd.ntmps84 ?_
 refine sg fun K k => ?_
 refine oo ?_
 refine AOps.nil (k _ ?_)
 refine sg fun K k => ?_
 refine oo ?_
 obtain ⟨r1, hx_1, h⟩ := bind_some h
 refine cl (m_cocketref01_trim_ok d1 _ hx_1) ?_
 refine oo ?_
 refine AOps.nil (k _ ?_)
 refine sg fun K k => ?_
 iterate 2 refine oo ?_
 refine ct 4 [4, 5] [1000] (fun  t => (13, .d (.bool (neg1 && (decide (0 < (r1.length : Int)))))) :: t) ?_ ?_
 ·rcases bt neg1 with hg_3 | hg_3
  ·rw [hg_3]
   iterate 4 refine oo ?_
   refine AOps.nil ?_
   exact sb
  ·rw [hg_3]
   iterate 4 refine oo ?_
   refine AOps.nil ?_
   exact sb
 iterate 3 refine oo ?_
 refine AOps.nil (k _ ?_)
 refine AWp.ret ?_
 cases h; exact rt
end Go.Pv.Tryd

namespace Go.Pv.Tryd
open Go.Proofs Go.Pv
theorem m_cocketref01_Of_ok (n1 : Int) (r : Big) (h : m_cocketref01_Of n1 = some r) : PureFn Tryd.prog G 73 [.d (.int .i64 n1)] (.d (.agg [(.bool r.Neg), (.imm 1 (lenc (PD.int .i64) r.D))])) := by
 unfold m_cocketref01_Of at h
 refine pf Tryd.func73 Tryd.ntmps73 ?_
 refine sg fun K k => ?_
 refine oo ?_
 refine AOps.nil (k _ ?_)
 refine sg fun K k => ?_
 refine oo ?_
 refine AOps.nil (k _ ?_)
 refine AWp.sub (Sub.void 3 3 1 1001 (by rfl) (by rfl) (by decide) (by decide)) ?_
 simp only [eput, hput, reduceCtorEq, ↓reduceIte, Nat.reduceAdd, Nat.reduceMul, Nat.reduceLT, Nat.reduceLeDiff, Nat.reduceEqDiff, Nat.reduceBEq, Int.reduceToNat]
 refine sg fun K k => ?_
 iterate 3 refine oo ?_
 refine AOps.nil (k _ ?_)
 refine jn (α := (List Int)) [2, 4] [1000] (fun i t => (3, .slc 1001 0 i.length) :: t) (fun i t => (1001, ⟨3, 1, dl (lenc (PD.int .i64) i)⟩) :: t) h ?_ ?_
 ·intro _ hj_2
  refine AWp.block ?_
  obtain ⟨x_7, hl_4, h2_5⟩ := bind_some hj_2
  refine lp (S := (Int × (List Int))) [2, 4] [1000] (fun i t => (0, .d (.int .i64 i.1)) :: (3, .slc 1001 0 i.2.length) :: t) (fun i t => (1001, ⟨3, 1, dl (lenc (PD.int .i64) i.2)⟩) :: t) hl_4 ?_ ?_; exact sb; clear hl_4
  rintro ⟨n2, L2⟩ _ hb_6; unfold m_cocketref01_Of_l1 at hb_6; try dsimp only at hb_6
  try dsimp only
  refine AWp.seq fun _ K_9 => ?_
  refine sg fun K k => ?_
  iterate 2 refine oo ?_
  refine AOps.nil (k _ ?_)
  refine cd hb_6 (fun hb_6 => ?_) (fun hb_6 => ?_)
  ·refine AWp.skip ?_
   refine K_9 _ ?_
   refine AWp.block ?_
   refine sg fun K k => ?_
   iterate 3 refine oo ?_
   refine AOps.nil (k _ ?_)
   refine jn (α := Int) [0, 2, 3, 4] [1000, 1001] (fun i t => (5, .d (.int .i64 i)) :: t) (fun i t => t) hb_6 ?_ ?_
   ·intro _ hj_12
    refine sg fun K k => ?_
    iterate 2 refine oo ?_
    refine AOps.nil (k _ ?_)
    refine cd hj_12 (fun hj_12 => ?_) (fun hj_12 => ?_)
    ·refine AWp.reg ?_
     iterate 3 refine oo ?_
     refine AOps.nil ?_
     cases hj_12; exact sb
    ·refine AWp.skip ?_
     cases hj_12; exact sb
   ·rintro r1 hb_6; dsimp only at hb_6 ⊢
    refine sg fun K k => ?_
    iterate 2 refine oo ?_
    refine ol ?_
    obtain ⟨hg_14, hb_6⟩ := guardO_some hb_6
    iterate 2 refine oo ?_
    refine AOps.nil (k _ ?_)
    refine AWp.reg ?_
    iterate 3 refine oo ?_
    refine AOps.nil ?_
    exact ln hb_6 sb
  ·refine AWp.exit ?_
   refine lx hb_6 fun hx => ?_; cases hx; try dsimp only at h2_5
   cases h2_5; exact sb
 ·rintro L1 h; dsimp only at h ⊢
  refine sg fun K k => ?_
  iterate 2 refine oo ?_
  refine AOps.sub (τ := ⟨[(2, .ptr 1000 0 0), (22, .d (.bool (decide (n1 < 0)))), (23, .d (.imm 1 (lenc (PD.int .i64) L1)))], [(1000, ⟨57, 2, [.d (.agg [(.bool false), .nilslice])]⟩)], [], none⟩) sc ?_
  obtain ⟨r2, hx_15, h⟩ := bind_some h
  refine cl (m_cocketref01_whole_ok (decide (n1 < 0)) L1 _ hx_15) ?_
  refine oo ?_
  refine AOps.nil (k _ ?_)
  refine AWp.ret ?_
  cases h; exact rt
end Go.Pv.Tryd

namespace Go.Pv.Tryd
open Go.Proofs Go.Pv
theorem m_cocketref01_Neg_ok (a1 : Big) (r : Big) (h : m_cocketref01_Neg a1 = some r) : PureFn Tryd.prog G 86 [.d (.agg [(.bool a1.Neg), (.imm 1 (lenc (PD.int .i64) a1.D))])] (.d (.agg [(.bool r.Neg), (.imm 1 (lenc (PD.int .i64) r.D))])) := by
 unfold m_cocketref01_Neg at h
 refine pf Tryd.func86 Tryd.ntmps86 ?_
 refine sg fun K k => ?_
 iterate 2 refine oo ?_
 refine AOps.nil (k _ ?_)
 refine sg fun K k => ?_
 iterate 5 refine oo ?_
 obtain ⟨r1, hx_1, h⟩ := bind_some h
 refine cl (m_cocketref01_whole_ok (!a1.Neg) a1.D _ hx_1) ?_
 refine oo ?_
 refine AOps.nil (k _ ?_)
 refine AWp.ret ?_
 cases h; exact rt
end Go.Pv.Tryd

namespace Go.Pv.Tryd
open Go.Proofs Go.Pv
theorem m_cocketref01_mulD_ok (a1 : (List Int)) (b1 : (List Int)) (r : (List Int)) (h : m_cocketref01_mulD a1 b1 = some r) : PureFn Tryd.prog G 85 [.d (.imm 1 (lenc (PD.int .i64) a1)), .d (.imm 1 (lenc (PD.int .i64) b1))] (.d (.imm 1 (lenc (PD.int .i64) r))) := by
 unfold m_cocketref01_mulD at h
 refine pf Tryd.func85 Tryd.ntmps85 ?_
 refine sg fun K k => ?_
 refine oo ?_
 refine AOps.nil (k _ ?_)
 refine sg fun K k => ?_
 obtain ⟨hg_1, h⟩ := guardO_some h
 iterate 7 refine oo ?_
 refine AOps.nil (k _ ?_)
 refine jn (α := (List Int)) [] [] (fun i t => (5, .slc 1000 0 i.length) :: t) (fun i t => (1000, ⟨3, 1, dl (lenc (PD.int .i64) i)⟩) :: t) h ?_ ?_
 ·intro _ hj_3
  refine sg fun K k => ?_
  refine oo ?_
  refine AOps.nil (k _ ?_)
  refine AWp.block ?_
  obtain ⟨x_8, hl_5, h2_6⟩ := bind_some hj_3
  refine lp (S := (Int × (List Int))) [0, 1] [] (fun i t => (5, .slc 1000 0 i.2.length) :: (6, .d (.int .i64 i.1)) :: t) (fun i t => (1000, ⟨3, 1, dl (lenc (PD.int .i64) i.2)⟩) :: t) hl_5 ?_ ?_; exact sb; clear hl_5
  rintro ⟨i1, L2⟩ _ hb_7; unfold m_cocketref01_mulD_l1 at hb_7; try dsimp only at hb_7
  try dsimp only
  refine AWp.seq fun _ K_10 => ?_
  refine sg fun K k => ?_
  iterate 4 refine oo ?_
  refine AOps.nil (k _ ?_)
  refine cd hb_7 (fun hb_7 => ?_) (fun hb_7 => ?_)
  ·refine AWp.skip ?_
   refine K_10 _ ?_
   refine jn (α := (List Int)) [0, 1, 6] [] (fun i t => (5, .slc 1000 0 i.length) :: t) (fun i t => (1000, ⟨3, 1, dl (lenc (PD.int .i64) i)⟩) :: t) hb_7 ?_ ?_
   ·intro _ hj_13
    refine AWp.block ?_
    refine sg fun K k => ?_
    refine oo ?_
    refine AOps.nil (k _ ?_)
    refine jn (α := (Int × (List Int))) [0, 1, 6] [] (fun i t => (5, .slc 1000 0 i.2.length) :: (7, .d (.int .i64 i.1)) :: t) (fun i t => (1000, ⟨3, 1, dl (lenc (PD.int .i64) i.2)⟩) :: t) hj_13 ?_ ?_
    ·intro _ hj_15
     refine sg fun K k => ?_
     refine oo ?_
     refine AOps.nil (k _ ?_)
     refine AWp.block ?_
     obtain ⟨x_20, hl_17, h2_18⟩ := bind_some hj_15
     refine lp (S := (Int × Int × (List Int))) [0, 1, 6] [] (fun i t => (5, .slc 1000 0 i.2.2.length) :: (7, .d (.int .i64 i.1)) :: (8, .d (.int .i64 i.2.1)) :: t) (fun i t => (1000, ⟨3, 1, dl (lenc (PD.int .i64) i.2.2)⟩) :: t) hl_17 ?_ ?_; exact sb; clear hl_17
     rintro ⟨carry2, k1, L5⟩ _ hb_19; unfold m_cocketref01_mulD_l2 at hb_19; try dsimp only at hb_19
     try dsimp only
     refine AWp.seq fun _ K_22 => ?_
     refine sg fun K k => ?_
     iterate 4 refine oo ?_
     refine AOps.nil (k _ ?_)
     refine cd hb_19 (fun hb_19 => ?_) (fun hb_19 => ?_)
     ·refine AWp.skip ?_
      refine K_22 _ ?_
      refine AWp.seq fun _ K_24 => ?_
      refine AWp.block ?_
      refine sd mo fun K k => ?_
      obtain ⟨e1, ⟨f_25, f_26, f_27, f_28⟩, hb_19⟩ := idx_bind hb_19
      iterate 5 refine dd ?_
      refine dd ?_ (by intro K k; simp (disch := omega) only [go_sem, f_27, ↓reduceIte]; exact k)
      obtain ⟨e2, ⟨f_29, f_30, f_31, f_32⟩, hb_19⟩ := idx_bind hb_19
      iterate 3 refine dd ?_
      refine dd ?_ (by intro K k; simp (disch := omega) only [go_sem, f_31, ↓reduceIte]; exact k)
      obtain ⟨e3, ⟨f_33, f_34, f_35, f_36⟩, hb_19⟩ := idx_bind hb_19
      iterate 3 refine dd ?_
      refine dd ?_ (by intro K k; simp (disch := omega) only [go_sem, f_35, ↓reduceIte]; exact k)
      iterate 5 refine dd ?_
      refine DOps.nil (by kernel_rfl) (k _ ?_)
      refine sg fun K k => ?_
      obtain ⟨e4, ⟨f_37, f_38, f_39, f_40⟩, hb_19⟩ := idx_bind hb_19
      iterate 7 refine oo ?_
      refine oo ?_ (by intro K k; simp (disch := omega) only [go_sem, f_39, ↓reduceIte]; exact k)
      refine AOps.nil (k _ ?_)
      refine AWp.reg ?_
      iterate 3 refine oo ?_
      refine AOps.nil ?_
      refine K_24 _ ?_
      refine AWp.reg ?_
      iterate 3 refine oo ?_
      refine AOps.nil ?_
      exact ln hb_19 sb
     ·refine AWp.exit ?_
      refine lx hb_19 fun hx => ?_; cases hx; try dsimp only at h2_18
      cases h2_18; exact sb
    ·rintro ⟨carry1, L4⟩ hj_13; dsimp only at hj_13 ⊢
     refine AWp.reg ?_
     obtain ⟨e5, ⟨f_41, f_42, f_43, f_44⟩, hj_13⟩ := idx_bind hj_13
     try simp only [Int.toNat_natCast] at f_43 f_44
     iterate 7 refine oo ?_
     refine oo ?_ (by intro K k; simp (disch := omega) only [go_sem, f_43, Int.toNat_natCast, ↓reduceIte]; exact k)
     refine AOps.nil ?_
     cases hj_13; exact sb
   ·rintro L3 hb_7; dsimp only at hb_7 ⊢
    refine AWp.reg ?_
    iterate 3 refine oo ?_
    refine AOps.nil ?_
    exact ln hb_7 sb
  ·refine AWp.exit ?_
   refine lx hb_7 fun hx => ?_; cases hx; try dsimp only at h2_6
   cases h2_6; exact sb
 ·rintro L1 h; dsimp only at h ⊢
  refine sg fun K k => ?_
  refine oo ?_
  refine AOps.sub (τ := ⟨[(62, .d (.imm 1 (lenc (PD.int .i64) L1)))], [], [], none⟩) sc ?_
  obtain ⟨r1, hx_45, h⟩ := bind_some h
  refine cl (m_cocketref01_trim_ok L1 _ hx_45) ?_
  refine oo ?_
  refine AOps.nil (k _ ?_)
  refine AWp.ret ?_
  cases h; exact rt
end Go.Pv.Tryd

namespace Go.Pv.Tryd
open Go.Proofs Go.Pv
theorem m_cocketref01_cmpD_ok (a1 : (List Int)) (b1 : (List Int)) (r : Int) (h : m_cocketref01_cmpD a1 b1 = some r) : PureFn Tryd.prog G 83 [.d (.imm 1 (lenc (PD.int .i64) a1)), .d (.imm 1 (lenc (PD.int .i64) b1))] (.d (.int .i64 r)) := by
 unfold m_cocketref01_cmpD at h
 refine pf Tryd.func83 Tryd.ntmps83 ?_
 refine sg fun K k => ?_
 refine oo ?_
 refine AOps.nil (k _ ?_)
 refine AWp.seq fun _ K_1 => ?_
 refine sg fun K k => ?_
 iterate 5 refine oo ?_
 refine AOps.nil (k _ ?_)
 refine cd h (fun h => ?_) (fun h => ?_)
 ·refine sg fun K k => ?_
  refine oo ?_
  refine AOps.nil (k _ ?_)
  refine AWp.ret ?_
  cases h; exact rt
 ·refine AWp.skip ?_
  refine K_1 _ ?_
  refine AWp.seq fun _ K_3 => ?_
  refine sg fun K k => ?_
  iterate 5 refine oo ?_
  refine AOps.nil (k _ ?_)
  refine cd h (fun h => ?_) (fun h => ?_)
  ·refine sg fun K k => ?_
   refine oo ?_
   refine AOps.nil (k _ ?_)
   refine AWp.ret ?_
   cases h; exact rt
  ·refine AWp.skip ?_
   refine K_3 _ ?_
   refine jm (ι := Unit) [] [] (fun i t => t) (fun i t => t) .inl h ?_ ?_
   ·intro _ hj_6 h
    refine sg fun K k => ?_
    iterate 4 refine oo ?_
    refine AOps.nil (k _ ?_)
    refine AWp.block ?_
    obtain ⟨x_11, hl_8, h2_9⟩ := bind_some hj_6
    refine lp (S := Int) [0, 1] [] (fun i t => (5, .d (.int .i64 i)) :: t) (fun i t => t) hl_8 ?_ ?_; exact sb; clear hl_8
    rintro i1 _ hb_10; unfold m_cocketref01_cmpD_l1 at hb_10; try dsimp only at hb_10
    try dsimp only
    refine AWp.seq fun _ K_13 => ?_
    refine sg fun K k => ?_
    iterate 2 refine oo ?_
    refine AOps.nil (k _ ?_)
    refine cd hb_10 (fun hb_10 => ?_) (fun hb_10 => ?_)
    ·refine AWp.skip ?_
     refine K_13 _ ?_
     refine AWp.seq fun _ K_15 => ?_
     refine AWp.block ?_
     refine AWp.seq fun _ K_16 => ?_
     refine sd mo fun K k => ?_
     obtain ⟨e1, ⟨f_17, f_18, f_19, f_20⟩, hb_10⟩ := idx_bind hb_10
     iterate 3 refine dd ?_
     refine dd ?_ (by intro K k; simp (disch := omega) only [go_sem, f_19, ↓reduceIte]; exact k)
     obtain ⟨e2, ⟨f_21, f_22, f_23, f_24⟩, hb_10⟩ := idx_bind hb_10
     iterate 3 refine dd ?_
     refine dd ?_ (by intro K k; simp (disch := omega) only [go_sem, f_23, ↓reduceIte]; exact k)
     refine dd ?_
     refine DOps.nil (by kernel_rfl) (k _ ?_)
     refine cd hb_10 (fun hb_10 => ?_) (fun hb_10 => ?_)
     ·refine sg fun K k => ?_
      refine oo ?_
      refine AOps.nil (k _ ?_)
      refine AWp.ret ?_
      refine lx hb_10 fun hx => ?_; cases hx; try dsimp only at h2_9
      cases h2_9; try dsimp only at h
      cases h; exact rt
     ·refine AWp.skip ?_
      refine K_16 _ ?_
      refine sd mo fun K k => ?_
      obtain ⟨e3, ⟨f_26, f_27, f_28, f_29⟩, hb_10⟩ := idx_bind hb_10
      iterate 3 refine dd ?_
      refine dd ?_ (by intro K k; simp (disch := omega) only [go_sem, f_28, ↓reduceIte]; exact k)
      obtain ⟨e4, ⟨f_30, f_31, f_32, f_33⟩, hb_10⟩ := idx_bind hb_10
      iterate 3 refine dd ?_
      refine dd ?_ (by intro K k; simp (disch := omega) only [go_sem, f_32, ↓reduceIte]; exact k)
      refine dd ?_
      refine DOps.nil (by kernel_rfl) (k _ ?_)
      refine cd hb_10 (fun hb_10 => ?_) (fun hb_10 => ?_)
      ·refine sg fun K k => ?_
       refine oo ?_
       refine AOps.nil (k _ ?_)
       refine AWp.ret ?_
       refine lx hb_10 fun hx => ?_; cases hx; try dsimp only at h2_9
       cases h2_9; try dsimp only at h
       cases h; exact rt
      ·refine AWp.skip ?_
       refine K_15 _ ?_
       refine AWp.reg ?_
       iterate 3 refine oo ?_
       refine AOps.nil ?_
       exact ln hb_10 sb
    ·refine AWp.exit ?_
     refine lx hb_10 fun hx => ?_; cases hx; try dsimp only at h2_9
     exact ln h2_9 sb
   ·rintro _ h; dsimp only at h ⊢
    refine sg fun K k => ?_
    refine oo ?_
    refine AOps.nil (k _ ?_)
    refine AWp.ret ?_
    cases h; exact rt
end Go.Pv.Tryd

namespace Go.Pv.Tryd
open Go.Proofs Go.Pv
theorem m_cocketref01_subD_ok (a1 : (List Int)) (b1 : (List Int)) (r : (List Int)) (h : m_cocketref01_subD a1 b1 = some r) : PureFn Tryd.prog G 101 [.d (.imm 1 (lenc (PD.int .i64) a1)), .d (.imm 1 (lenc (PD.int .i64) b1))] (.d (.imm 1 (lenc (PD.int .i64) r))) := by
 unfold m_cocketref01_subD at h
 refine pf Tryd.func101 Tryd.ntmps101 ?_
 refine sg fun K k => ?_
 refine oo ?_
 refine AOps.nil (k _ ?_)
 refine sg fun K k => ?_
 refine oo ?_
 refine AOps.nil (k _ ?_)
 refine AWp.sub (Sub.void 5 3 1 1000 (by rfl) (by rfl) (by decide) (by decide)) ?_
 simp only [eput, hput, reduceCtorEq, ↓reduceIte, Nat.reduceAdd, Nat.reduceMul, Nat.reduceLT, Nat.reduceLeDiff, Nat.reduceEqDiff, Nat.reduceBEq, Int.reduceToNat]
 refine sg fun K k => ?_
 refine oo ?_
 refine AOps.nil (k _ ?_)
 refine jn (α := (List Int)) [] [] (fun i t => (5, .slc 1000 0 i.length) :: t) (fun i t => (1000, ⟨3, 1, dl (lenc (PD.int .i64) i)⟩) :: t) h ?_ ?_
 ·intro _ hj_2
  refine sg fun K k => ?_
  refine oo ?_
  refine AOps.nil (k _ ?_)
  refine AWp.block ?_
  obtain ⟨x_7, hl_4, h2_5⟩ := bind_some hj_2
  refine lp (S := (Int × Int × (List Int))) [0, 1] [] (fun i t => (5, .slc 1000 0 i.2.2.length) :: (6, .d (.int .i64 i.1)) :: (7, .d (.int .i64 i.2.1)) :: t) (fun i t => (1000, ⟨3, 1, dl (lenc (PD.int .i64) i.2.2)⟩) :: t) hl_4 ?_ ?_; exact sb; clear hl_4
  rintro ⟨borrow1, i1, L2⟩ _ hb_6; unfold m_cocketref01_subD_l1 at hb_6; try dsimp only at hb_6
  try dsimp only
  refine AWp.seq fun _ K_9 => ?_
  refine sg fun K k => ?_
  iterate 4 refine oo ?_
  refine AOps.nil (k _ ?_)
  refine cd hb_6 (fun hb_6 => ?_) (fun hb_6 => ?_)
  ·refine AWp.skip ?_
   refine K_9 _ ?_
   refine AWp.seq fun _ K_11 => ?_
   refine AWp.block ?_
   refine sg fun K k => ?_
   obtain ⟨e1, ⟨f_12, f_13, f_14, f_15⟩, hb_6⟩ := idx_bind hb_6
   iterate 3 refine oo ?_
   refine oo ?_ (by intro K k; simp (disch := omega) only [go_sem, f_14, ↓reduceIte]; exact k)
   iterate 3 refine oo ?_
   refine AOps.nil (k _ ?_)
   refine jn (α := Int) [0, 1, 5, 7] [1000] (fun i t => (8, .d (.int .i64 i)) :: t) (fun i t => t) hb_6 ?_ ?_
   ·intro _ hj_17
    refine sg fun K k => ?_
    iterate 4 refine oo ?_
    refine AOps.nil (k _ ?_)
    refine cd hj_17 (fun hj_17 => ?_) (fun hj_17 => ?_)
    ·refine AWp.reg ?_
     obtain ⟨e2, ⟨f_19, f_20, f_21, f_22⟩, hj_17⟩ := idx_bind hj_17
     iterate 4 refine oo ?_
     refine oo ?_ (by intro K k; simp (disch := omega) only [go_sem, f_21, ↓reduceIte]; exact k)
     iterate 2 refine oo ?_
     refine AOps.nil ?_
     cases hj_17; exact sb
    ·refine AWp.skip ?_
     cases hj_17; exact sb
   ·rintro s1 hb_6; dsimp only at hb_6 ⊢
    refine sg fun K k => ?_
    refine oo ?_
    refine AOps.nil (k _ ?_)
    refine jn (α := (Int × Int)) [0, 1, 5, 7] [1000] (fun i t => (6, .d (.int .i64 i.1)) :: (8, .d (.int .i64 i.2)) :: t) (fun i t => t) hb_6 ?_ ?_
    ·intro _ hj_24
     refine sg fun K k => ?_
     iterate 2 refine oo ?_
     refine AOps.nil (k _ ?_)
     refine cd hj_24 (fun hj_24 => ?_) (fun hj_24 => ?_)
     ·refine sg fun K k => ?_
      iterate 3 refine oo ?_
      refine AOps.nil (k _ ?_)
      refine AWp.reg ?_
      refine oo ?_
      refine AOps.nil ?_
      cases hj_24; exact sb
     ·refine AWp.skip ?_
      cases hj_24; exact sb
    ·rintro ⟨borrow2, s2⟩ hb_6; dsimp only at hb_6 ⊢
     refine AWp.reg ?_
     iterate 2 refine oo ?_
     refine ol ?_
     obtain ⟨hg_26, hb_6⟩ := guardO_some hb_6
     iterate 2 refine oo ?_
     refine AOps.nil ?_
     refine K_11 _ ?_
     refine AWp.reg ?_
     iterate 3 refine oo ?_
     refine AOps.nil ?_
     exact ln hb_6 sb
  ·refine AWp.exit ?_
   refine lx hb_6 fun hx => ?_; cases hx; try dsimp only at h2_5
   cases h2_5; exact sb
 ·rintro L1 h; dsimp only at h ⊢
  refine sg fun K k => ?_
  refine oo ?_
  refine AOps.sub (τ := ⟨[(39, .d (.imm 1 (lenc (PD.int .i64) L1)))], [], [], none⟩) sc ?_
  obtain ⟨r1, hx_27, h⟩ := bind_some h
  refine cl (m_cocketref01_trim_ok L1 _ hx_27) ?_
  refine oo ?_
  refine AOps.nil (k _ ?_)
  refine AWp.ret ?_
  cases h; exact rt
end Go.Pv.Tryd

namespace Go.Pv.Tryd
open Go.Proofs Go.Pv
set_option maxHeartbeats 4000000 in
theorem m_cocketref01_divD_ok (a1 : (List Int)) (b1 : (List Int)) (r : ((List Int) × (List Int))) (h : m_cocketref01_divD a1 b1 = some r) : PureFn Tryd.prog G 99 [.d (.imm 1 (lenc (PD.int .i64) a1)), .d (.imm 1 (lenc (PD.int .i64) b1))] (.tuple [.d (.imm 1 (lenc (PD.int .i64) r.1)), .d (.imm 1 (lenc (PD.int .i64) r.2))]) := by
 unfold m_cocketref01_divD at h
 refine pf Tryd.func99 Tryd.ntmps99 ?_
 refine sg fun K k => ?_
 iterate 2 refine oo ?_
 refine AOps.nil (k _ ?_)
 refine AWp.seq fun _ K_1 => ?_
 refine sg fun K k => ?_
 iterate 3 refine oo ?_
 refine AOps.nil (k _ ?_)
 refine cd h (fun h => ?_) (fun h => ?_)
 ·refine sg fun K k => ?_
  iterate 2 refine oo ?_
  refine AOps.nil (k _ ?_)
  refine AWp.ret ?_
  cases h; exact rt
 ·refine AWp.skip ?_
  refine K_1 _ ?_
  refine sg fun K k => ?_
  obtain ⟨hg_3, h⟩ := guardO_some h
  iterate 4 refine oo ?_
  refine AOps.nil (k _ ?_)
  refine sg fun K k => ?_
  refine oo ?_
  refine AOps.nil (k _ ?_)
  refine jn (α := ((List Int) × (List Int))) [] [] (fun i t => (6, .slc 1000 0 i.2.length) :: (7, .d (.imm 1 (lenc (PD.int .i64) i.1))) :: t) (fun i t => (1000, ⟨3, 1, dl (lenc (PD.int .i64) i.2)⟩) :: t) h ?_ ?_
  ·intro _ hj_5
   refine sg fun K k => ?_
   iterate 4 refine oo ?_
   refine AOps.nil (k _ ?_)
   refine AWp.block ?_
   obtain ⟨x_10, hl_7, h2_8⟩ := bind_some hj_5
   refine lp (S := ((List Int) × Int × (List Int))) [0, 1] [] (fun i t => (6, .slc 1000 0 i.2.2.length) :: (7, .d (.imm 1 (lenc (PD.int .i64) i.1))) :: (8, .d (.int .i64 i.2.1)) :: t) (fun i t => (1000, ⟨3, 1, dl (lenc (PD.int .i64) i.2.2)⟩) :: t) hl_7 ?_ ?_; exact sc; clear hl_7
   rintro ⟨rem2, i1, L2⟩ _ hb_9; unfold m_cocketref01_divD_l1 at hb_9; try dsimp only at hb_9
   try dsimp only
   refine AWp.seq fun _ K_12 => ?_
   refine sg fun K k => ?_
   iterate 2 refine oo ?_
   refine AOps.nil (k _ ?_)
   refine cd hb_9 (fun hb_9 => ?_) (fun hb_9 => ?_)
   ·refine AWp.skip ?_
    refine K_12 _ ?_
    refine jn (α := ((List Int) × (List Int))) [0, 1, 8] [] (fun i t => (6, .slc 1000 0 i.2.length) :: (7, .d (.imm 1 (lenc (PD.int .i64) i.1))) :: t) (fun i t => (1000, ⟨3, 1, dl (lenc (PD.int .i64) i.2)⟩) :: t) hb_9 ?_ ?_
    ·intro _ hj_15
     refine AWp.block ?_
     refine sg fun K k => ?_
     obtain ⟨e1, ⟨f_16, f_17, f_18, f_19⟩, hj_15⟩ := idx_bind hj_15
     iterate 3 refine oo ?_
     refine oo ?_ (by intro K k; simp (disch := omega) only [go_sem, f_18, ↓reduceIte]; exact k)
     iterate 2 refine oo ?_
     refine AOps.nil (k _ ?_)
     refine sg fun K k => ?_
     obtain ⟨hg_20, hj_15⟩ := guardO_some hj_15
     iterate 3 refine oo ?_
     refine AOps.sub (τ := ⟨[(0, .d (.imm 1 (lenc (PD.int .i64) a1))), (1, .d (.imm 1 (lenc (PD.int .i64) b1))), (6, .slc 1000 0 L2.length), (8, .d (.int .i64 i1)), (34, .d (.imm 1 (lenc (PD.int .i64) ([e1] ++ rem2))))], [(1000, ⟨3, 1, dl (lenc (PD.int .i64) L2)⟩)], [], none⟩) sc ?_
     obtain ⟨r1, hx_21, hj_15⟩ := bind_some hj_15
     refine cl (m_cocketref01_trim_ok ([e1] ++ rem2) _ hx_21) ?_
     refine oo ?_
     refine AOps.nil (k _ ?_)
     refine sg fun K k => ?_
     iterate 2 refine oo ?_
     refine AOps.nil (k _ ?_)
     refine jn (α := Int) [0, 1, 6, 7, 8] [1000] (fun i t => (10, .d (.int .i64 i)) :: t) (fun i t => t) hj_15 ?_ ?_
     ·intro _ hj_23
      refine AWp.block ?_
      obtain ⟨x_28, hl_25, h2_26⟩ := bind_some hj_23
      refine lp (S := (Int × Int)) [0, 1, 6, 7, 8] [1000] (fun i t => (10, .d (.int .i64 i.1)) :: (11, .d (.int .i64 i.2)) :: t) (fun i t => t) hl_25 ?_ ?_; exact sb; clear hl_25
      rintro ⟨lo2, hi1⟩ _ hb_27; unfold m_cocketref01_divD_l2 at hb_27; try dsimp only at hb_27
      try dsimp only
      refine AWp.seq fun _ K_30 => ?_
      refine sg fun K k => ?_
      iterate 3 refine oo ?_
      refine AOps.nil (k _ ?_)
      refine cd hb_27 (fun hb_27 => ?_) (fun hb_27 => ?_)
      ·refine AWp.skip ?_
       refine K_30 _ ?_
       refine AWp.block ?_
       refine sg fun K k => ?_
       iterate 6 refine oo ?_
       refine AOps.nil (k _ ?_)
       refine sg fun K k => ?_
       iterate 2 refine oo ?_
       refine ol ?_
       obtain ⟨r2, hx_32, hb_27⟩ := bind_some hb_27
       refine cl (m_cocketref01_trim_ok [(IntKind.i64.wrap ((IntKind.i64.wrap ((IntKind.i64.wrap (lo2 + hi1)) + 1)).tdiv 2))] _ hx_32) ?_
       obtain ⟨r3, hx_33, hb_27⟩ := bind_some hb_27
       refine cl (m_cocketref01_mulD_ok b1 r2 _ hx_33) ?_
       refine oo ?_
       refine AOps.nil (k _ ?_)
       refine sg fun K k => ?_
       iterate 2 refine oo ?_
       obtain ⟨r4, hx_34, hb_27⟩ := bind_some hb_27
       refine cl (m_cocketref01_cmpD_ok r3 r1 _ hx_34) ?_
       refine oo ?_
       refine AOps.nil (k _ ?_)
       refine cd hb_27 (fun hb_27 => ?_) (fun hb_27 => ?_)
       ·refine AWp.reg ?_
        iterate 2 refine oo ?_
        refine AOps.nil ?_
        exact ln hb_27 sb
       ·refine AWp.reg ?_
        iterate 3 refine oo ?_
        refine AOps.nil ?_
        exact ln hb_27 sb
      ·refine AWp.exit ?_
       refine lx hb_27 fun hx => ?_; cases hx; try dsimp only at h2_26
       cases h2_26; exact sb
     ·rintro lo1 hj_15; dsimp only at hj_15 ⊢
      refine sg fun K k => ?_
      obtain ⟨e2, ⟨f_36, f_37, f_38, f_39⟩, hj_15⟩ := idx_bind hj_15
      iterate 4 refine oo ?_
      refine oo ?_ (by intro K k; simp (disch := omega) only [go_sem, f_38, ↓reduceIte]; exact k)
      refine AOps.nil (k _ ?_)
      refine AWp.reg ?_
      iterate 3 refine oo ?_
      refine ol ?_
      obtain ⟨r5, hx_40, hj_15⟩ := bind_some hj_15
      refine cl (m_cocketref01_trim_ok [lo1] _ hx_40) ?_
      obtain ⟨r6, hx_41, hj_15⟩ := bind_some hj_15
      refine cl (m_cocketref01_mulD_ok b1 r5 _ hx_41) ?_
      obtain ⟨r7, hx_42, hj_15⟩ := bind_some hj_15
      refine cl (m_cocketref01_subD_ok r1 r6 _ hx_42) ?_
      refine oo ?_
      refine AOps.nil ?_
      cases hj_15; exact sb
    ·rintro ⟨rem3, L3⟩ hb_9; dsimp only at hb_9 ⊢
     refine AWp.reg ?_
     iterate 3 refine oo ?_
     refine AOps.nil ?_
     exact ln hb_9 sb
   ·refine AWp.exit ?_
    refine lx hb_9 fun hx => ?_; cases hx; try dsimp only at h2_8
    cases h2_8; exact sb
  ·rintro ⟨rem1, L1⟩ h; dsimp only at h ⊢
   refine sg fun K k => ?_
   refine oo ?_
   refine AOps.sub (τ := ⟨[(7, .d (.imm 1 (lenc (PD.int .i64) rem1))), (67, .d (.imm 1 (lenc (PD.int .i64) L1)))], [], [], none⟩) sc ?_
   obtain ⟨r8, hx_43, h⟩ := bind_some h
   refine cl (m_cocketref01_trim_ok L1 _ hx_43) ?_
   iterate 3 refine oo ?_
   refine AOps.nil (k _ ?_)
   refine AWp.ret ?_
   cases h; exact rt
end Go.Pv.Tryd

namespace Go.Pv.Tryd
open Go.Proofs Go.Pv
theorem m_cocketref01_gcdD_ok (a1 : (List Int)) (b1 : (List Int)) (r : (List Int)) (h : m_cocketref01_gcdD a1 b1 = some r) : PureFn Tryd.prog G 87 [.d (.imm 1 (lenc (PD.int .i64) a1)), .d (.imm 1 (lenc (PD.int .i64) b1))] (.d (.imm 1 (lenc (PD.int .i64) r))) := by
 unfold m_cocketref01_gcdD at h
 refine pf Tryd.func87 Tryd.ntmps87 ?_
 refine sg fun K k => ?_
 refine oo ?_
 refine AOps.nil (k _ ?_)
 refine jn (α := (List Int)) [] [] (fun i t => (0, .d (.imm 1 (lenc (PD.int .i64) i))) :: t) (fun i t => t) h ?_ ?_
 ·intro _ hj_2
  refine AWp.block ?_
  obtain ⟨x_7, hl_4, h2_5⟩ := bind_some hj_2
  refine lp (S := ((List Int) × (List Int))) [] [] (fun i t => (0, .d (.imm 1 (lenc (PD.int .i64) i.1))) :: (1, .d (.imm 1 (lenc (PD.int .i64) i.2))) :: t) (fun i t => t) hl_4 ?_ ?_; exact sb; clear hl_4
  rintro ⟨a3, b2⟩ _ hb_6; unfold m_cocketref01_gcdD_l1 at hb_6; try dsimp only at hb_6
  try dsimp only
  refine AWp.seq fun _ K_9 => ?_
  refine sg fun K k => ?_
  iterate 3 refine oo ?_
  refine AOps.nil (k _ ?_)
  refine cd hb_6 (fun hb_6 => ?_) (fun hb_6 => ?_)
  ·refine AWp.skip ?_
   refine K_9 _ ?_
   refine AWp.block ?_
   refine sg fun K k => ?_
   iterate 2 refine oo ?_
   obtain ⟨r1, hx_11, hb_6⟩ := bind_some hb_6
   refine cl (m_cocketref01_divD_ok a3 b2 _ hx_11) ?_
   iterate 5 refine oo ?_
   refine AOps.nil (k _ ?_)
   refine AWp.reg ?_
   iterate 4 refine oo ?_
   refine AOps.nil ?_
   exact ln hb_6 sb
  ·refine AWp.exit ?_
   refine lx hb_6 fun hx => ?_; cases hx; try dsimp only at h2_5
   cases h2_5; exact sb
 ·rintro a2 h; dsimp only at h ⊢
  refine sg fun K k => ?_
  iterate 2 refine oo ?_
  refine AOps.nil (k _ ?_)
  refine AWp.ret ?_
  cases h; exact rt
end Go.Pv.Tryd

namespace Go.Pv.Tryd
open Go.Proofs Go.Pv
theorem m_cocketref01_addD_ok (a1 : (List Int)) (b1 : (List Int)) (r : (List Int)) (h : m_cocketref01_addD a1 b1 = some r) : PureFn Tryd.prog G 100 [.d (.imm 1 (lenc (PD.int .i64) a1)), .d (.imm 1 (lenc (PD.int .i64) b1))] (.d (.imm 1 (lenc (PD.int .i64) r))) := by
 unfold m_cocketref01_addD at h
 refine pf Tryd.func100 Tryd.ntmps100 ?_
 refine sg fun K k => ?_
 refine oo ?_
 refine AOps.nil (k _ ?_)
 refine sg fun K k => ?_
 refine oo ?_
 refine AOps.nil (k _ ?_)
 refine AWp.sub (Sub.void 5 3 1 1000 (by rfl) (by rfl) (by decide) (by decide)) ?_
 simp only [eput, hput, reduceCtorEq, ↓reduceIte, Nat.reduceAdd, Nat.reduceMul, Nat.reduceLT, Nat.reduceLeDiff, Nat.reduceEqDiff, Nat.reduceBEq, Int.reduceToNat]
 refine sg fun K k => ?_
 refine oo ?_
 refine AOps.nil (k _ ?_)
 refine jn (α := (List Int)) [] [] (fun i t => (5, .slc 1000 0 i.length) :: t) (fun i t => (1000, ⟨3, 1, dl (lenc (PD.int .i64) i)⟩) :: t) h ?_ ?_
 ·intro _ hj_2
  refine sg fun K k => ?_
  refine oo ?_
  refine AOps.nil (k _ ?_)
  refine AWp.block ?_
  obtain ⟨x_7, hl_4, h2_5⟩ := bind_some hj_2
  refine lp (S := (Int × Int × (List Int))) [0, 1] [] (fun i t => (5, .slc 1000 0 i.2.2.length) :: (6, .d (.int .i64 i.1)) :: (7, .d (.int .i64 i.2.1)) :: t) (fun i t => (1000, ⟨3, 1, dl (lenc (PD.int .i64) i.2.2)⟩) :: t) hl_4 ?_ ?_; exact sb; clear hl_4
  rintro ⟨carry1, i1, L2⟩ _ hb_6; unfold m_cocketref01_addD_l1 at hb_6; try dsimp only at hb_6
  try dsimp only
  refine AWp.seq fun _ K_9 => ?_
  refine sg fun K k => ?_
  iterate 5 refine oo ?_
  refine ct 5 [0, 1, 5, 6, 7] [1000] (fun  t => (18, .d (.bool ((decide (i1 < (a1.length : Int))) || (decide (i1 < (b1.length : Int)))))) :: t) ?_ ?_
  ·rcases bt (decide (i1 < (a1.length : Int))) with hg_11 | hg_11
   ·rw [hg_11]
    iterate 5 refine oo ?_
    refine AOps.nil ?_
    exact sb
   ·rw [hg_11]
    iterate 5 refine oo ?_
    refine AOps.nil ?_
    exact sb
  refine oo ?_
  refine ct 3 [0, 1, 5, 6, 7] [1000] (fun  t => (22, .d (.bool (((decide (i1 < (a1.length : Int))) || (decide (i1 < (b1.length : Int)))) || (decide (0 < carry1))))) :: t) ?_ ?_
  ·rcases bt ((decide (i1 < (a1.length : Int))) || (decide (i1 < (b1.length : Int)))) with hg_13 | hg_13
   ·rw [hg_13]
    iterate 3 refine oo ?_
    refine AOps.nil ?_
    exact sb
   ·rw [hg_13]
    iterate 3 refine oo ?_
    refine AOps.nil ?_
    exact sb
  refine AOps.nil (k _ ?_)
  refine cd hb_6 (fun hb_6 => ?_) (fun hb_6 => ?_)
  ·refine AWp.skip ?_
   refine K_9 _ ?_
   refine AWp.seq fun _ K_15 => ?_
   refine AWp.block ?_
   refine sg fun K k => ?_
   iterate 2 refine oo ?_
   refine AOps.nil (k _ ?_)
   refine jn (α := Int) [0, 1, 5, 7] [1000] (fun i t => (8, .d (.int .i64 i)) :: t) (fun i t => t) hb_6 ?_ ?_
   ·intro _ hj_17
    refine sg fun K k => ?_
    iterate 4 refine oo ?_
    refine AOps.nil (k _ ?_)
    refine cd hj_17 (fun hj_17 => ?_) (fun hj_17 => ?_)
    ·refine AWp.reg ?_
     obtain ⟨e1, ⟨f_19, f_20, f_21, f_22⟩, hj_17⟩ := idx_bind hj_17
     iterate 4 refine oo ?_
     refine oo ?_ (by intro K k; simp (disch := omega) only [go_sem, f_21, ↓reduceIte]; exact k)
     iterate 2 refine oo ?_
     refine AOps.nil ?_
     cases hj_17; exact sb
    ·refine AWp.skip ?_
     cases hj_17; exact sb
   ·rintro s1 hb_6; dsimp only at hb_6 ⊢
    refine jn (α := Int) [0, 1, 5, 7] [1000] (fun i t => (8, .d (.int .i64 i)) :: t) (fun i t => t) hb_6 ?_ ?_
    ·intro _ hj_24
     refine sg fun K k => ?_
     iterate 4 refine oo ?_
     refine AOps.nil (k _ ?_)
     refine cd hj_24 (fun hj_24 => ?_) (fun hj_24 => ?_)
     ·refine AWp.reg ?_
      obtain ⟨e2, ⟨f_26, f_27, f_28, f_29⟩, hj_24⟩ := idx_bind hj_24
      iterate 4 refine oo ?_
      refine oo ?_ (by intro K k; simp (disch := omega) only [go_sem, f_28, ↓reduceIte]; exact k)
      iterate 2 refine oo ?_
      refine AOps.nil ?_
      cases hj_24; exact sb
     ·refine AWp.skip ?_
      cases hj_24; exact sb
    ·rintro s2 hb_6; dsimp only at hb_6 ⊢
     refine sg fun K k => ?_
     iterate 3 refine oo ?_
     refine ol ?_
     obtain ⟨hg_30, hb_6⟩ := guardO_some hb_6
     iterate 2 refine oo ?_
     refine AOps.nil (k _ ?_)
     refine AWp.reg ?_
     iterate 3 refine oo ?_
     refine AOps.nil ?_
     refine K_15 _ ?_
     refine AWp.reg ?_
     iterate 3 refine oo ?_
     refine AOps.nil ?_
     exact ln hb_6 sb
  ·refine AWp.exit ?_
   refine lx hb_6 fun hx => ?_; cases hx; try dsimp only at h2_5
   cases h2_5; exact sb
 ·rintro L1 h; dsimp only at h ⊢
  refine sg fun K k => ?_
  iterate 2 refine oo ?_
  refine AOps.nil (k _ ?_)
  refine AWp.ret ?_
  cases h; exact rt
end Go.Pv.Tryd

namespace Go.Pv.Tryd
open Go.Proofs Go.Pv
theorem m_cocketref01_Over_ok (a1 : Big) (b1 : Big) (r : (Big × Big)) (h : m_cocketref01_Over a1 b1 = some r) : PureFn Tryd.prog G 88 [.d (.agg [(.bool a1.Neg), (.imm 1 (lenc (PD.int .i64) a1.D))]), .d (.agg [(.bool b1.Neg), (.imm 1 (lenc (PD.int .i64) b1.D))])] (.tuple [.d (.agg [(.bool r.1.Neg), (.imm 1 (lenc (PD.int .i64) r.1.D))]), .d (.agg [(.bool r.2.Neg), (.imm 1 (lenc (PD.int .i64) r.2.D))])]) := by
 unfold m_cocketref01_Over at h
 refine pf Tryd.func88 Tryd.ntmps88 ?_
 refine sg fun K k => ?_
 iterate 4 refine oo ?_
 refine AOps.nil (k _ ?_)
 refine sg fun K k => ?_
 iterate 4 refine oo ?_
 obtain ⟨r1, hx_1, h⟩ := bind_some h
 refine cl (m_cocketref01_divD_ok a1.D b1.D _ hx_1) ?_
 iterate 5 refine oo ?_
 refine AOps.nil (k _ ?_)
 refine AWp.seq fun _ K_2 => ?_
 refine sg fun K k => ?_
 iterate 3 refine oo ?_
 refine AOps.nil (k _ ?_)
 refine cd h (fun h => ?_) (fun h => ?_)
 ·refine sg fun K k => ?_
  refine oo ?_
  obtain ⟨r2, hx_4, h⟩ := bind_some h
  refine cl (m_cocketref01_whole_ok false r1.1 _ hx_4) ?_
  refine oo ?_
  obtain ⟨r3, hx_5, h⟩ := bind_some h
  refine cl (m_cocketref01_whole_ok false r1.2 _ hx_5) ?_
  iterate 2 refine oo ?_
  refine AOps.nil (k _ ?_)
  refine AWp.ret ?_
  cases h; exact rt
 ·refine AWp.skip ?_
  refine K_2 _ ?_
  refine AWp.seq fun _ K_6 => ?_
  refine sg fun K k => ?_
  iterate 3 refine oo ?_
  refine AOps.nil (k _ ?_)
  refine cd h (fun h => ?_) (fun h => ?_)
  ·refine sg fun K k => ?_
   refine oo ?_
   obtain ⟨r4, hx_8, h⟩ := bind_some h
   refine cl (m_cocketref01_whole_ok true r1.1 _ hx_8) ?_
   iterate 3 refine oo ?_
   refine AOps.nil (k _ ?_)
   refine AWp.ret ?_
   cases h; exact rt
  ·refine AWp.skip ?_
   refine K_6 _ ?_
   refine sd mo fun K k => ?_
   refine dd ?_
   refine ddl ?_
   obtain ⟨r5, hx_9, h⟩ := bind_some h
   refine dcl (m_cocketref01_addD_ok r1.1 [1] _ hx_9) ?_
   obtain ⟨r6, hx_10, h⟩ := bind_some h
   refine dcl (m_cocketref01_whole_ok true r5 _ hx_10) ?_
   iterate 3 refine dd ?_
   obtain ⟨r7, hx_11, h⟩ := bind_some h
   refine dcl (m_cocketref01_subD_ok b1.D r1.2 _ hx_11) ?_
   obtain ⟨r8, hx_12, h⟩ := bind_some h
   refine dcl (m_cocketref01_whole_ok false r7 _ hx_12) ?_
   iterate 2 refine dd ?_
   refine DOps.nil (by kernel_rfl) (k _ ?_)
   refine AWp.ret ?_
   cases h; exact rt
end Go.Pv.Tryd

namespace Go.Pv.Tryd
open Go.Proofs Go.Pv
theorem m_cocketref01_lowest_ok (n1 : Big) (d1 : Big) (r : Q) (h : m_cocketref01_lowest n1 d1 = some r) : PureFn Tryd.prog G 72 [.d (.agg [(.bool n1.Neg), (.imm 1 (lenc (PD.int .i64) n1.D))]), .d (.agg [(.bool d1.Neg), (.imm 1 (lenc (PD.int .i64) d1.D))])] (.d (.agg [(.bool r.N.Neg), (.imm 1 (lenc (PD.int .i64) r.N.D)), (.bool r.D.Neg), (.imm 1 (lenc (PD.int .i64) r.D.D))])) := by
 unfold m_cocketref01_lowest at h
 refine pf Tryd.func72 Tryd.ntmps72 ?_
 refine sg fun K k => ?_
 iterate 3 refine oo ?_
 refine AOps.nil (k _ ?_)
 refine jn (α := (Big × Big)) [4] [1002] (fun i t => (2, .ptr 1000 0 0) :: (3, .ptr 1001 0 0) :: t) (fun i t => (1000, ⟨57, 2, [.d (.agg [(.bool i.1.Neg), (.imm 1 (lenc (PD.int .i64) i.1.D))])]⟩) :: (1001, ⟨57, 2, [.d (.agg [(.bool i.2.Neg), (.imm 1 (lenc (PD.int .i64) i.2.D))])]⟩) :: t) h ?_ ?_
 ·intro _ hj_2
  refine sg fun K k => ?_
  iterate 2 refine oo ?_
  refine AOps.nil (k _ ?_)
  refine cd hj_2 (fun hj_2 => ?_) (fun hj_2 => ?_)
  ·refine sg fun K k => ?_
   refine oo ?_
   obtain ⟨r1, hx_4, hj_2⟩ := bind_some hj_2
   refine cl (m_cocketref01_Neg_ok n1 _ hx_4) ?_
   refine oo ?_
   refine AOps.nil (k _ ?_)
   refine AWp.reg ?_
   refine oo ?_
   obtain ⟨r2, hx_5, hj_2⟩ := bind_some hj_2
   refine cl (m_cocketref01_Neg_ok d1 _ hx_5) ?_
   refine oo ?_
   refine AOps.nil ?_
   cases hj_2; exact sb
  ·refine AWp.skip ?_
   cases hj_2; exact sb
 ·rintro ⟨c1, c2⟩ h; dsimp only at h ⊢
  refine sg fun K k => ?_
  iterate 4 refine oo ?_
  obtain ⟨r3, hx_6, h⟩ := bind_some h
  refine cl (m_cocketref01_gcdD_ok c1.D c2.D _ hx_6) ?_
  obtain ⟨r4, hx_7, h⟩ := bind_some h
  refine cl (m_cocketref01_whole_ok false r3 _ hx_7) ?_
  iterate 2 refine oo ?_
  refine AOps.nil (k _ ?_)
  refine sg fun K k => ?_
  iterate 2 refine oo ?_
  obtain ⟨r5, hx_8, h⟩ := bind_some h
  refine cl (m_cocketref01_Over_ok c1 r4 _ hx_8) ?_
  iterate 7 refine oo ?_
  refine AOps.nil (k _ ?_)
  refine sg fun K k => ?_
  iterate 2 refine oo ?_
  obtain ⟨r6, hx_9, h⟩ := bind_some h
  refine cl (m_cocketref01_Over_ok c2 r4 _ hx_9) ?_
  iterate 7 refine oo ?_
  refine AOps.nil (k _ ?_)
  refine sg fun K k => ?_
  iterate 4 refine oo ?_
  refine AOps.nil (k _ ?_)
  refine AWp.ret ?_
  cases h; exact rt
end Go.Pv.Tryd

namespace Go.Pv.Tryd
open Go.Proofs Go.Pv
theorem m_cocketref01_Frac_ok (n1 : Int) (d1 : Int) (r : Q) (h : m_cocketref01_Frac n1 d1 = some r) : PureFn Tryd.prog G 41 [.d (.int .i64 n1), .d (.int .i64 d1)] (.d (.agg [(.bool r.N.Neg), (.imm 1 (lenc (PD.int .i64) r.N.D)), (.bool r.D.Neg), (.imm 1 (lenc (PD.int .i64) r.D.D))])) := by
 unfold m_cocketref01_Frac at h
 refine pf Tryd.func41 Tryd.ntmps41 ?_
 refine sg fun K k => ?_
 refine oo ?_
 refine AOps.nil (k _ ?_)
 refine sg fun K k => ?_
 refine oo ?_
 obtain ⟨r1, hx_1, h⟩ := bind_some h
 refine cl (m_cocketref01_Of_ok n1 _ hx_1) ?_
 refine oo ?_
 obtain ⟨r2, hx_2, h⟩ := bind_some h
 refine cl (m_cocketref01_Of_ok d1 _ hx_2) ?_
 obtain ⟨r3, hx_3, h⟩ := bind_some h
 refine cl (m_cocketref01_lowest_ok r1 r2 _ hx_3) ?_
 refine oo ?_
 refine AOps.nil (k _ ?_)
 refine AWp.ret ?_
 cases h; exact rt
end Go.Pv.Tryd

namespace Go.Pv.Tryd
open Go.Proofs Go.Pv
theorem m_cocketref01_rate_ok (o1 : Offer) (r : Q) (h : m_cocketref01_rate o1 = some r) : PureFn Tryd.prog G 63 [.d (.agg [(.int .i64 o1.From), (.int .i64 o1.To), (.int .i64 o1.Num), (.int .i64 o1.Den)])] (.d (.agg [(.bool r.N.Neg), (.imm 1 (lenc (PD.int .i64) r.N.D)), (.bool r.D.Neg), (.imm 1 (lenc (PD.int .i64) r.D.D))])) := by
 unfold m_cocketref01_rate at h
 refine pf Tryd.func63 Tryd.ntmps63 ?_
 refine sg fun K k => ?_
 iterate 2 refine oo ?_
 refine AOps.nil (k _ ?_)
 refine sg fun K k => ?_
 iterate 4 refine oo ?_
 obtain ⟨r1, hx_1, h⟩ := bind_some h
 refine cl (m_cocketref01_Frac_ok o1.Num o1.Den _ hx_1) ?_
 refine oo ?_
 refine AOps.nil (k _ ?_)
 refine AWp.ret ?_
 cases h; exact rt
end Go.Pv.Tryd

namespace Go.Pv.Tryd
open Go.Proofs Go.Pv
theorem m_cocketref01_Times_ok (a1 : Big) (b1 : Big) (r : Big) (h : m_cocketref01_Times a1 b1 = some r) : PureFn Tryd.prog G 71 [.d (.agg [(.bool a1.Neg), (.imm 1 (lenc (PD.int .i64) a1.D))]), .d (.agg [(.bool b1.Neg), (.imm 1 (lenc (PD.int .i64) b1.D))])] (.d (.agg [(.bool r.Neg), (.imm 1 (lenc (PD.int .i64) r.D))])) := by
 unfold m_cocketref01_Times at h
 refine pf Tryd.func71 Tryd.ntmps71 ?_
 refine sg fun K k => ?_
 iterate 3 refine oo ?_
 refine AOps.nil (k _ ?_)
 refine sd mo fun K k => ?_
 iterate 9 refine dd ?_
 obtain ⟨r1, hx_1, h⟩ := bind_some h
 refine dcl (m_cocketref01_mulD_ok a1.D b1.D _ hx_1) ?_
 obtain ⟨r2, hx_2, h⟩ := bind_some h
 refine dcl (m_cocketref01_whole_ok (!(a1.Neg == b1.Neg)) r1 _ hx_2) ?_
 refine dd ?_
 refine DOps.nil (by kernel_rfl) (k _ ?_)
 refine AWp.ret ?_
 cases h; exact rt
end Go.Pv.Tryd

namespace Go.Pv.Tryd
open Go.Proofs Go.Pv
theorem m_cocketref01_Mul_ok (a1 : Q) (b1 : Q) (r : Q) (h : m_cocketref01_Mul a1 b1 = some r) : PureFn Tryd.prog G 43 [.d (.agg [(.bool a1.N.Neg), (.imm 1 (lenc (PD.int .i64) a1.N.D)), (.bool a1.D.Neg), (.imm 1 (lenc (PD.int .i64) a1.D.D))]), .d (.agg [(.bool b1.N.Neg), (.imm 1 (lenc (PD.int .i64) b1.N.D)), (.bool b1.D.Neg), (.imm 1 (lenc (PD.int .i64) b1.D.D))])] (.d (.agg [(.bool r.N.Neg), (.imm 1 (lenc (PD.int .i64) r.N.D)), (.bool r.D.Neg), (.imm 1 (lenc (PD.int .i64) r.D.D))])) := by
 unfold m_cocketref01_Mul at h
 refine pf Tryd.func43 Tryd.ntmps43 ?_
 refine sg fun K k => ?_
 iterate 3 refine oo ?_
 refine AOps.nil (k _ ?_)
 refine sd mo fun K k => ?_
 iterate 4 refine dd ?_
 obtain ⟨r1, hx_1, h⟩ := bind_some h
 refine dcl (m_cocketref01_Times_ok a1.N b1.N _ hx_1) ?_
 iterate 4 refine dd ?_
 obtain ⟨r2, hx_2, h⟩ := bind_some h
 refine dcl (m_cocketref01_Times_ok a1.D b1.D _ hx_2) ?_
 obtain ⟨r3, hx_3, h⟩ := bind_some h
 refine dcl (m_cocketref01_lowest_ok r1 r2 _ hx_3) ?_
 refine dd ?_
 refine DOps.nil (by kernel_rfl) (k _ ?_)
 refine AWp.ret ?_
 cases h; exact rt
end Go.Pv.Tryd

namespace Go.Pv.Tryd
open Go.Proofs Go.Pv
theorem m_cocketref01_Compare_ok (a1 : Big) (b1 : Big) (r : Int) (h : m_cocketref01_Compare a1 b1 = some r) : PureFn Tryd.prog G 70 [.d (.agg [(.bool a1.Neg), (.imm 1 (lenc (PD.int .i64) a1.D))]), .d (.agg [(.bool b1.Neg), (.imm 1 (lenc (PD.int .i64) b1.D))])] (.d (.int .i64 r)) := by
 unfold m_cocketref01_Compare at h
 refine pf Tryd.func70 Tryd.ntmps70 ?_
 refine sg fun K k => ?_
 iterate 3 refine oo ?_
 refine AOps.nil (k _ ?_)
 refine AWp.seq fun _ K_1 => ?_
 refine sg fun K k => ?_
 iterate 5 refine oo ?_
 refine AOps.nil (k _ ?_)
 refine cd h (fun h => ?_) (fun h => ?_)
 ·refine AWp.seq fun _ K_3 => ?_
  refine sg fun K k => ?_
  iterate 2 refine oo ?_
  refine AOps.nil (k _ ?_)
  refine cd h (fun h => ?_) (fun h => ?_)
  ·refine sg fun K k => ?_
   refine oo ?_
   refine AOps.nil (k _ ?_)
   refine AWp.ret ?_
   cases h; exact rt
  ·refine AWp.skip ?_
   refine K_3 _ ?_
   refine sg fun K k => ?_
   refine oo ?_
   refine AOps.nil (k _ ?_)
   refine AWp.ret ?_
   cases h; exact rt
 ·refine AWp.skip ?_
  refine K_1 _ ?_
  refine sg fun K k => ?_
  iterate 4 refine oo ?_
  obtain ⟨r1, hx_5, h⟩ := bind_some h
  refine cl (m_cocketref01_cmpD_ok a1.D b1.D _ hx_5) ?_
  refine oo ?_
  refine AOps.nil (k _ ?_)
  refine AWp.seq fun _ K_6 => ?_
  refine sg fun K k => ?_
  iterate 2 refine oo ?_
  refine AOps.nil (k _ ?_)
  refine cd h (fun h => ?_) (fun h => ?_)
  ·refine sg fun K k => ?_
   iterate 3 refine oo ?_
   refine AOps.nil (k _ ?_)
   refine AWp.ret ?_
   cases h; exact rt
  ·refine AWp.skip ?_
   refine K_6 _ ?_
   refine sg fun K k => ?_
   iterate 2 refine oo ?_
   refine AOps.nil (k _ ?_)
   refine AWp.ret ?_
   cases h; exact rt
end Go.Pv.Tryd

namespace Go.Pv.Tryd
open Go.Proofs Go.Pv
theorem m_cocketref01_Cmp_ok (a1 : Q) (b1 : Q) (r : Int) (h : m_cocketref01_Cmp a1 b1 = some r) : PureFn Tryd.prog G 38 [.d (.agg [(.bool a1.N.Neg), (.imm 1 (lenc (PD.int .i64) a1.N.D)), (.bool a1.D.Neg), (.imm 1 (lenc (PD.int .i64) a1.D.D))]), .d (.agg [(.bool b1.N.Neg), (.imm 1 (lenc (PD.int .i64) b1.N.D)), (.bool b1.D.Neg), (.imm 1 (lenc (PD.int .i64) b1.D.D))])] (.d (.int .i64 r)) := by
 unfold m_cocketref01_Cmp at h
 refine pf Tryd.func38 Tryd.ntmps38 ?_
 refine sg fun K k => ?_
 iterate 3 refine oo ?_
 refine AOps.nil (k _ ?_)
 refine sd mo fun K k => ?_
 iterate 4 refine dd ?_
 obtain ⟨r1, hx_1, h⟩ := bind_some h
 refine dcl (m_cocketref01_Times_ok a1.N b1.D _ hx_1) ?_
 iterate 4 refine dd ?_
 obtain ⟨r2, hx_2, h⟩ := bind_some h
 refine dcl (m_cocketref01_Times_ok b1.N a1.D _ hx_2) ?_
 obtain ⟨r3, hx_3, h⟩ := bind_some h
 refine dcl (m_cocketref01_Compare_ok r1 r2 _ hx_3) ?_
 refine dd ?_
 refine DOps.nil (by kernel_rfl) (k _ ?_)
 refine AWp.ret ?_
 cases h; exact rt
end Go.Pv.Tryd

namespace Go.Pv.Tryd
open Go.Proofs Go.Pv
theorem m_cocketref01_better_ok (r1 : Reach) (q1 : Q) (r : Bool) (h : m_cocketref01_better r1 q1 = some r) : PureFn Tryd.prog G 58 [.d (.agg [(.bool r1.Is), (.bool r1.Rate.N.Neg), (.imm 1 (lenc (PD.int .i64) r1.Rate.N.D)), (.bool r1.Rate.D.Neg), (.imm 1 (lenc (PD.int .i64) r1.Rate.D.D))]), .d (.agg [(.bool q1.N.Neg), (.imm 1 (lenc (PD.int .i64) q1.N.D)), (.bool q1.D.Neg), (.imm 1 (lenc (PD.int .i64) q1.D.D))])] (.d (.bool r)) := by
 unfold m_cocketref01_better at h
 refine pf Tryd.func58 Tryd.ntmps58 ?_
 refine sg fun K k => ?_
 iterate 3 refine oo ?_
 refine AOps.nil (k _ ?_)
 refine sg fun K k => ?_
 iterate 4 refine oo ?_
 obtain ⟨b1, hc_1, h⟩ := bind_some h
 refine ct 6 [] [] (fun  t => (14, .d (.bool b1)) :: t) ?_ ?_
 ·rcases bt (!r1.Is) with hg_3 | hg_3
  ·rw [hg_3]
   rw [hg_3, cond_true] at hc_1
   iterate 6 refine oo ?_
   refine AOps.nil ?_
   cases hc_1
   exact sb
  ·rw [hg_3]
   rw [hg_3, cond_false] at hc_1
   iterate 3 refine oo ?_
   obtain ⟨r2, hx_2, hc_1⟩ := bind_some hc_1
   refine cl (m_cocketref01_Cmp_ok q1 r1.Rate _ hx_2) ?_
   iterate 2 refine oo ?_
   refine AOps.nil ?_
   cases hc_1
   exact sb
 refine oo ?_
 refine AOps.nil (k _ ?_)
 refine AWp.ret ?_
 cases h; exact rt
end Go.Pv.Tryd

namespace Go.Pv.Tryd
open Go.Proofs Go.Pv
set_option maxHeartbeats 4000000 in
theorem m_cocketref01_reaches_ok (n1 : Int) (l1 : (List Offer)) (to1 : Int) (most1 : Int) (r : (List (List Reach))) (h : m_cocketref01_reaches n1 l1 to1 most1 = some r) : PureFn Tryd.prog G 57 [.d (.int .i64 n1), .d (.imm 4 (lenc Offer.pd l1)), .d (.int .i64 to1), .d (.int .i64 most1)] (.d (.imm 1 (lenc (slenc 5 Reach.pd) r))) := by
 unfold m_cocketref01_reaches at h
 refine pf Tryd.func57 Tryd.ntmps57 ?_
 refine sg fun K k => ?_
 refine oo ?_
 refine AOps.nil (k _ ?_)
 refine sg fun K k => ?_
 obtain ⟨hg_1, h⟩ := guardO_some h
 iterate 2 refine oo ?_
 refine AOps.sub (τ := ⟨[(0, .d (.int .i64 n1)), (1, .d (.imm 4 (lenc Offer.pd l1))), (2, .d (.int .i64 to1)), (3, .d (.int .i64 most1)), (17, .slc 1000 0 ((n1).toNat))], [(1000, ⟨90, 5, dl (lenc Reach.pd (List.replicate (n1).toNat (⟨false, ⟨⟨false, []⟩, ⟨false, []⟩⟩⟩ : Reach)))⟩)], [], none⟩) sch ?_
 refine oo ?_
 refine AOps.nil (k _ ?_)
 refine sg fun K k => ?_
 iterate 2 refine oo ?_
 obtain ⟨r1, hx_2, h⟩ := bind_some h
 refine cl (m_cocketref01_Frac_ok 1 1 _ hx_2) ?_
 obtain ⟨e1, ⟨f_3, f_4, f_5, f_6⟩, h⟩ := idx_bind h
 try simp only [List.length_append, List.length_set, List.length_replicate, List.length_cons, List.length_nil] at f_4 f_6
 iterate 2 refine oo ?_
 refine oo ?_ (by intro K k; simp (disch := omega) only [go_sem, f_5, ↓reduceIte]; exact k)
 refine AOps.nil (k _ ?_)
 refine sg fun K k => ?_
 refine oo ?_
 refine AOps.sub (τ := ⟨[(0, .d (.int .i64 n1)), (1, .d (.imm 4 (lenc Offer.pd l1))), (3, .d (.int .i64 most1)), (23, .d (.imm 5 (lenc Reach.pd ((List.replicate (n1).toNat (⟨false, ⟨⟨false, []⟩, ⟨false, []⟩⟩⟩ : Reach)).set (to1).toNat (⟨true, r1⟩ : Reach)))))], [], [], none⟩) sc ?_
 iterate 2 refine oo ?_
 refine AOps.nil (k _ ?_)
 refine jn (α := (List (List Reach))) [] [] (fun i t => (10, .slc 1000 0 i.length) :: t) (fun i t => (1000, ⟨86, 1, dl (lenc (slenc 5 Reach.pd) i)⟩) :: t) h ?_ ?_
 ·intro _ hj_8
  refine sg fun K k => ?_
  refine oo ?_
  refine AOps.nil (k _ ?_)
  refine AWp.block ?_
  obtain ⟨x_13, hl_10, h2_11⟩ := bind_some hj_8
  refine lp (S := (Int × (List (List Reach)))) [0, 1, 3] [] (fun i t => (10, .slc 1000 0 i.2.length) :: (11, .d (.int .i64 i.1)) :: t) (fun i t => (1000, ⟨86, 1, dl (lenc (slenc 5 Reach.pd) i.2)⟩) :: t) hl_10 ?_ ?_; exact sb; clear hl_10
  rintro ⟨k1, L2⟩ _ hb_12; unfold m_cocketref01_reaches_l1 at hb_12; try dsimp only at hb_12
  try dsimp only
  refine AWp.seq fun _ K_15 => ?_
  refine sg fun K k => ?_
  iterate 3 refine oo ?_
  refine AOps.nil (k _ ?_)
  refine cd hb_12 (fun hb_12 => ?_) (fun hb_12 => ?_)
  ·refine AWp.skip ?_
   refine K_15 _ ?_
   refine jn (α := (List (List Reach))) [0, 1, 3, 11] [] (fun i t => (10, .slc 1000 0 i.length) :: t) (fun i t => (1000, ⟨86, 1, dl (lenc (slenc 5 Reach.pd) i)⟩) :: t) hb_12 ?_ ?_
   ·intro _ hj_18
    refine AWp.block ?_
    refine sg fun K k => ?_
    obtain ⟨hg_19, hj_18⟩ := guardO_some hj_18
    iterate 2 refine oo ?_
    refine AOps.sub (τ := ⟨[(0, .d (.int .i64 n1)), (1, .d (.imm 4 (lenc Offer.pd l1))), (3, .d (.int .i64 most1)), (10, .slc 1000 0 L2.length), (11, .d (.int .i64 k1)), (31, .slc 1001 0 ((n1).toNat))], [(1000, ⟨86, 1, dl (lenc (slenc 5 Reach.pd) L2)⟩), (1001, ⟨90, 5, dl (lenc Reach.pd (List.replicate (n1).toNat (⟨false, ⟨⟨false, []⟩, ⟨false, []⟩⟩⟩ : Reach)))⟩)], [], none⟩) sch ?_
    refine oo ?_
    refine AOps.nil (k _ ?_)
    refine jn (α := (List Reach)) [0, 1, 3, 10, 11] [1000] (fun i t => (12, .slc 1001 0 i.length) :: t) (fun i t => (1001, ⟨90, 5, dl (lenc Reach.pd i)⟩) :: t) hj_18 ?_ ?_
    ·intro _ hj_21
     refine sg fun K k => ?_
     refine oo ?_
     refine AOps.nil (k _ ?_)
     refine AWp.block ?_
     obtain ⟨x_26, hl_23, h2_24⟩ := bind_some hj_21
     refine lp (S := (Int × (List Reach))) [0, 1, 3, 10, 11] [1000] (fun i t => (12, .slc 1001 0 i.2.length) :: (13, .d (.int .i64 i.1)) :: t) (fun i t => (1001, ⟨90, 5, dl (lenc Reach.pd i.2)⟩) :: t) hl_23 ?_ ?_; exact sb; clear hl_23
     rintro ⟨i1, L5⟩ _ hb_25; unfold m_cocketref01_reaches_l2 at hb_25; try dsimp only at hb_25
     try dsimp only
     refine AWp.seq fun _ K_28 => ?_
     refine sg fun K k => ?_
     iterate 4 refine oo ?_
     refine AOps.nil (k _ ?_)
     refine cd hb_25 (fun hb_25 => ?_) (fun hb_25 => ?_)
     ·refine AWp.skip ?_
      refine K_28 _ ?_
      refine jn (α := (List Reach)) [0, 1, 3, 10, 11, 13] [1000] (fun i t => (12, .slc 1001 0 i.length) :: t) (fun i t => (1001, ⟨90, 5, dl (lenc Reach.pd i)⟩) :: t) hb_25 ?_ ?_
      ·intro _ hj_31
       refine AWp.block ?_
       refine sd mo fun K k => ?_
       obtain ⟨e2, ⟨f_32, f_33, f_34, f_35⟩, hj_31⟩ := idx_bind hj_31
       iterate 4 refine dd ?_
       refine dd ?_ (by intro K k; simp (disch := omega) only [go_sem, f_34, ↓reduceIte]; exact k)
       obtain ⟨e3, ⟨f_36, f_37, f_38, f_39⟩, hj_31⟩ := idx_bind hj_31
       iterate 4 refine dd ?_
       refine dd ?_ (by intro K k; simp (disch := omega) only [go_sem, f_38, ↓reduceIte]; exact k)
       obtain ⟨e4, ⟨f_40, f_41, f_42, f_43⟩, hj_31⟩ := idx_bind hj_31
       refine dd ?_
       refine dd ?_ (by intro K k; simp (disch := omega) only [go_sem, f_42, ↓reduceIte]; exact k)
       iterate 2 refine dd ?_
       refine DOps.nil (by kernel_rfl) (k _ ?_)
       refine sg fun K k => ?_
       iterate 2 refine oo ?_
       refine AOps.nil (k _ ?_)
       refine cd hj_31 (fun hj_31 => ?_) (fun hj_31 => ?_)
       ·refine sd mo fun K k => ?_
        obtain ⟨e5, ⟨f_45, f_46, f_47, f_48⟩, hj_31⟩ := idx_bind hj_31
        iterate 3 refine dd ?_
        refine dd ?_ (by intro K k; simp (disch := omega) only [go_sem, f_47, ↓reduceIte]; exact k)
        obtain ⟨r2, hx_49, hj_31⟩ := bind_some hj_31
        refine dcl (m_cocketref01_rate_ok e5 _ hx_49) ?_
        iterate 2 refine dd ?_
        obtain ⟨r3, hx_50, hj_31⟩ := bind_some hj_31
        refine dcl (m_cocketref01_Mul_ok r2 e4.Rate _ hx_50) ?_
        iterate 2 refine dd ?_
        refine DOps.nil (by kernel_rfl) (k _ ?_)
        refine sd mo fun K k => ?_
        obtain ⟨e6, ⟨f_51, f_52, f_53, f_54⟩, hj_31⟩ := idx_bind hj_31
        iterate 5 refine dd ?_
        refine dd ?_ (by intro K k; simp (disch := omega) only [go_sem, f_53, ↓reduceIte]; exact k)
        obtain ⟨e7, ⟨f_55, f_56, f_57, f_58⟩, hj_31⟩ := idx_bind hj_31
        refine dd ?_
        refine dd ?_ (by intro K k; simp (disch := omega) only [go_sem, f_57, ↓reduceIte]; exact k)
        refine dd ?_
        obtain ⟨r4, hx_59, hj_31⟩ := bind_some hj_31
        refine dcl (m_cocketref01_better_ok e7 r3 _ hx_59) ?_
        refine DOps.nil (by kernel_rfl) (k _ ?_)
        refine cd hj_31 (fun hj_31 => ?_) (fun hj_31 => ?_)
        ·refine AWp.draw mo [] trivial ?_
         obtain ⟨e8, ⟨f_61, f_62, f_63, f_64⟩, hj_31⟩ := idx_bind hj_31
         iterate 5 refine dd ?_
         refine dd ?_ (by intro K k; simp (disch := omega) only [go_sem, f_63, ↓reduceIte]; exact k)
         obtain ⟨e9, ⟨f_65, f_66, f_67, f_68⟩, hj_31⟩ := idx_bind hj_31
         iterate 3 refine dd ?_
         refine dd ?_ (by intro K k; simp (disch := omega) only [go_sem, f_67, ↓reduceIte]; exact k)
         refine DOps.nil (by kernel_rfl) ?_
         cases hj_31; exact sb
        ·refine AWp.skip ?_
         cases hj_31; exact sb
       ·refine AWp.skip ?_
        cases hj_31; exact sb
      ·rintro L6 hb_25; dsimp only at hb_25 ⊢
       refine AWp.reg ?_
       iterate 3 refine oo ?_
       refine AOps.nil ?_
       exact ln hb_25 sb
     ·refine AWp.exit ?_
      refine lx hb_25 fun hx => ?_; cases hx; try dsimp only at h2_24
      cases h2_24; exact sb
    ·rintro L4 hj_18; dsimp only at hj_18 ⊢
     refine AWp.reg ?_
     iterate 2 refine oo ?_
     refine AOps.sub (τ := ⟨[(0, .d (.int .i64 n1)), (1, .d (.imm 4 (lenc Offer.pd l1))), (3, .d (.int .i64 most1)), (11, .d (.int .i64 k1)), (79, .slc 1000 0 L2.length), (80, .d (.imm 5 (lenc Reach.pd L4)))], [(1000, ⟨86, 1, dl (lenc (slenc 5 Reach.pd) L2)⟩)], [], none⟩) sc ?_
     refine ol ?_
     obtain ⟨hg_69, hj_18⟩ := guardO_some hj_18
     iterate 2 refine oo ?_
     refine AOps.nil ?_
     cases hj_18; exact sb
   ·rintro L3 hb_12; dsimp only at hb_12 ⊢
    refine AWp.reg ?_
    iterate 3 refine oo ?_
    refine AOps.nil ?_
    exact ln hb_12 sb
  ·refine AWp.exit ?_
   refine lx hb_12 fun hx => ?_; cases hx; try dsimp only at h2_11
   cases h2_11; exact sb
 ·rintro L1 h; dsimp only at h ⊢
  refine sg fun K k => ?_
  iterate 2 refine oo ?_
  refine AOps.nil (k _ ?_)
  refine AWp.ret ?_
  cases h; exact rt
end Go.Pv.Tryd

namespace Go.Pv.Tryd
open Go.Proofs Go.Pv
theorem m_cocketref01_gains_ok (q1 : Q) (r1 : Reach) (r : Bool) (h : m_cocketref01_gains q1 r1 = some r) : PureFn Tryd.prog G 92 [.d (.agg [(.bool q1.N.Neg), (.imm 1 (lenc (PD.int .i64) q1.N.D)), (.bool q1.D.Neg), (.imm 1 (lenc (PD.int .i64) q1.D.D))]), .d (.agg [(.bool r1.Is), (.bool r1.Rate.N.Neg), (.imm 1 (lenc (PD.int .i64) r1.Rate.N.D)), (.bool r1.Rate.D.Neg), (.imm 1 (lenc (PD.int .i64) r1.Rate.D.D))])] (.d (.bool r)) := by
 unfold m_cocketref01_gains at h
 refine pf Tryd.func92 Tryd.ntmps92 ?_
 refine sg fun K k => ?_
 iterate 3 refine oo ?_
 refine AOps.nil (k _ ?_)
 refine sg fun K k => ?_
 iterate 3 refine oo ?_
 obtain ⟨b1, hc_1, h⟩ := bind_some h
 refine ct 8 [] [] (fun  t => (15, .d (.bool b1)) :: t) ?_ ?_
 ·rcases bt r1.Is with hg_5 | hg_5
  ·rw [hg_5]
   rw [hg_5, cond_true] at hc_1
   iterate 3 refine oo ?_
   obtain ⟨r2, hx_2, hc_1⟩ := bind_some hc_1
   refine cl (m_cocketref01_Mul_ok q1 r1.Rate _ hx_2) ?_
   obtain ⟨r3, hx_3, hc_1⟩ := bind_some hc_1
   refine cl (m_cocketref01_Frac_ok 1 1 _ hx_3) ?_
   obtain ⟨r4, hx_4, hc_1⟩ := bind_some hc_1
   refine cl (m_cocketref01_Cmp_ok r2 r3 _ hx_4) ?_
   iterate 2 refine oo ?_
   refine AOps.nil ?_
   cases hc_1
   exact sb
  ·rw [hg_5]
   rw [hg_5, cond_false] at hc_1
   iterate 8 refine oo ?_
   refine AOps.nil ?_
   cases hc_1
   exact sb
 refine oo ?_
 refine AOps.nil (k _ ?_)
 refine AWp.ret ?_
 cases h; exact rt
end Go.Pv.Tryd

namespace Go.Pv.Tryd
open Go.Proofs Go.Pv
set_option maxHeartbeats 4000000 in
theorem m_cocketref01_closed_ok (l1 : (List Offer)) (r1 : (List (List Reach))) (first1 : Int) (k1 : Int) (r : ((List Int) × Bool)) (h : m_cocketref01_closed l1 r1 first1 k1 = some r) : PureFn Tryd.prog G 77 [.d (.imm 4 (lenc Offer.pd l1)), .d (.imm 1 (lenc (slenc 5 Reach.pd) r1)), .d (.int .i64 first1), .d (.int .i64 k1)] (.tuple [.d (.imm 1 (lenc (PD.int .i64) r.1)), .d (.bool r.2)]) := by
 unfold m_cocketref01_closed at h
 refine pf Tryd.func77 Tryd.ntmps77 ?_
 refine sg fun K k => ?_
 iterate 2 refine oo ?_
 refine AOps.nil (k _ ?_)
 refine sg fun K k => ?_
 iterate 3 refine oo ?_
 refine AOps.nil (k _ ?_)
 refine sg fun K k => ?_
 obtain ⟨e1, ⟨f_1, f_2, f_3, f_4⟩, h⟩ := idx_bind h
 iterate 3 refine oo ?_
 refine oo ?_ (by intro K k; simp (disch := omega) only [go_sem, f_3, ↓reduceIte]; exact k)
 obtain ⟨r2, hx_5, h⟩ := bind_some h
 refine cl (m_cocketref01_rate_ok e1 _ hx_5) ?_
 iterate 2 refine oo ?_
 refine AOps.nil (k _ ?_)
 refine AWp.seq fun _ K_6 => ?_
 refine sd mo fun K k => ?_
 obtain ⟨e2, ⟨f_7, f_8, f_9, f_10⟩, h⟩ := idx_bind h
 iterate 5 refine dd ?_
 refine dd ?_ (by intro K k; simp (disch := omega) only [go_sem, f_9, ↓reduceIte]; exact k)
 obtain ⟨e3, ⟨f_11, f_12, f_13, f_14⟩, h⟩ := idx_bind h
 iterate 4 refine dd ?_
 refine dd ?_ (by intro K k; simp (disch := omega) only [go_sem, f_13, ↓reduceIte]; exact k)
 obtain ⟨e4, ⟨f_15, f_16, f_17, f_18⟩, h⟩ := idx_bind h
 refine dd ?_
 refine dd ?_ (by intro K k; simp (disch := omega) only [go_sem, f_17, ↓reduceIte]; exact k)
 obtain ⟨r3, hx_19, h⟩ := bind_some h
 refine dcl (m_cocketref01_gains_ok r2 e4 _ hx_19) ?_
 refine dd ?_
 refine DOps.nil (by kernel_rfl) (k _ ?_)
 refine cd h (fun h => ?_) (fun h => ?_)
 ·refine sg fun K k => ?_
  iterate 2 refine oo ?_
  refine AOps.nil (k _ ?_)
  refine AWp.ret ?_
  cases h; exact rt
 ·refine AWp.skip ?_
  refine K_6 _ ?_
  refine jn (α := (List Int)) [] [] (fun i t => (10, .slc 1000 0 i.length) :: t) (fun i t => (1000, ⟨3, 1, dl (lenc (PD.int .i64) i)⟩) :: t) h ?_ ?_
  ·intro _ hj_22
   refine AWp.block ?_
   obtain ⟨x_27, hl_24, h2_25⟩ := bind_some hj_22
   refine lp (S := ((List Int) × Q)) [0, 1, 3] [] (fun i t => (10, .slc 1000 0 i.1.length) :: (11, .ptr 1001 0 0) :: t) (fun i t => (1000, ⟨3, 1, dl (lenc (PD.int .i64) i.1)⟩) :: (1001, ⟨59, 4, [.d (.agg [(.bool i.2.N.Neg), (.imm 1 (lenc (PD.int .i64) i.2.N.D)), (.bool i.2.D.Neg), (.imm 1 (lenc (PD.int .i64) i.2.D.D))])]⟩) :: t) hl_24 ?_ ?_; exact sb; clear hl_24
   rintro ⟨L2, c1⟩ _ hb_26; unfold m_cocketref01_closed_l1 at hb_26; try dsimp only at hb_26
   try dsimp only
   refine AWp.seq fun _ K_29 => ?_
   refine sg fun K k => ?_
   iterate 4 refine oo ?_
   refine AOps.nil (k _ ?_)
   refine cd hb_26 (fun hb_26 => ?_) (fun hb_26 => ?_)
   ·refine AWp.skip ?_
    refine K_29 _ ?_
    refine AWp.block ?_
    refine sg fun K k => ?_
    obtain ⟨e5, ⟨f_31, f_32, f_33, f_34⟩, hb_26⟩ := idx_bind hb_26
    try simp only [Int.toNat_natCast] at f_33 f_34
    iterate 6 refine oo ?_
    refine oo ?_ (by intro K k; simp (disch := omega) only [go_sem, f_33, Int.toNat_natCast, ↓reduceIte]; exact k)
    obtain ⟨e6, ⟨f_35, f_36, f_37, f_38⟩, hb_26⟩ := idx_bind hb_26
    iterate 2 refine oo ?_
    refine oo ?_ (by intro K k; simp (disch := omega) only [go_sem, f_37, ↓reduceIte]; exact k)
    refine oo ?_
    refine AOps.nil (k _ ?_)
    refine sg fun K k => ?_
    refine oo ?_
    refine AOps.nil (k _ ?_)
    refine AWp.block ?_
    obtain ⟨x_43, hl_40, h2_41⟩ := bind_some hb_26
    refine lp (S := (Int × (List Int) × Q)) [0, 1, 3, 12] [] (fun i t => (10, .slc 1000 0 i.2.1.length) :: (11, .ptr 1001 0 0) :: (13, .d (.int .i64 i.1)) :: t) (fun i t => (1000, ⟨3, 1, dl (lenc (PD.int .i64) i.2.1)⟩) :: (1001, ⟨59, 4, [.d (.agg [(.bool i.2.2.N.Neg), (.imm 1 (lenc (PD.int .i64) i.2.2.N.D)), (.bool i.2.2.D.Neg), (.imm 1 (lenc (PD.int .i64) i.2.2.D.D))])]⟩) :: t) hl_40 ?_ ?_; exact sb; clear hl_40
    rintro ⟨i1, L3, c2⟩ _ hb_42; unfold m_cocketref01_closed_l2 at hb_42; try dsimp only at hb_42
    try dsimp only
    refine AWp.seq fun _ K_45 => ?_
    refine sg fun K k => ?_
    iterate 4 refine oo ?_
    refine AOps.nil (k _ ?_)
    refine cd hb_42 (fun hb_42 => ?_) (fun hb_42 => ?_)
    ·refine AWp.skip ?_
     refine K_45 _ ?_
     refine AWp.seq fun _ K_47 => ?_
     refine AWp.block ?_
     refine sd mo fun K k => ?_
     obtain ⟨e7, ⟨f_48, f_49, f_50, f_51⟩, hb_42⟩ := idx_bind hb_42
     iterate 4 refine dd ?_
     refine dd ?_ (by intro K k; simp (disch := omega) only [go_sem, f_50, ↓reduceIte]; exact k)
     iterate 3 refine dd ?_
     rcases bt (decide (e7.From = e6.To)) with hg_52 | hg_52
     ·rw [hg_52]
      rw [hg_52, cond_true] at hb_42
      iterate 4 refine dd ?_
      refine dd ?_ (by intro K k; simp (disch := omega) only [go_sem, f_50, ↓reduceIte]; exact k)
      obtain ⟨r4, hx_53, hb_42⟩ := bind_some hb_42
      refine dcl (m_cocketref01_rate_ok e7 _ hx_53) ?_
      obtain ⟨r5, hx_54, hb_42⟩ := bind_some hb_42
      refine dcl (m_cocketref01_Mul_ok c2 r4 _ hx_54) ?_
      obtain ⟨e8, ⟨f_55, f_56, f_57, f_58⟩, hb_42⟩ := idx_bind hb_42
      try simp only [Int.toNat_natCast] at f_57 f_58
      iterate 7 refine dd ?_
      refine dd ?_ (by intro K k; simp (disch := omega) only [go_sem, f_57, Int.toNat_natCast, ↓reduceIte]; exact k)
      iterate 4 refine dd ?_
      refine dd ?_ (by intro K k; simp (disch := omega) only [go_sem, f_50, ↓reduceIte]; exact k)
      obtain ⟨e9, ⟨f_59, f_60, f_61, f_62⟩, hb_42⟩ := idx_bind hb_42
      refine dd ?_
      refine dd ?_ (by intro K k; simp (disch := omega) only [go_sem, f_61, ↓reduceIte]; exact k)
      obtain ⟨r6, hx_63, hb_42⟩ := bind_some hb_42
      refine dcl (m_cocketref01_gains_ok r5 e9 _ hx_63) ?_
      refine dd ?_
      refine DOps.nil (by kernel_rfl) (k _ ?_)
      refine cd hb_42 (fun hb_42 => ?_) (fun hb_42 => ?_)
      ·refine sd mo fun K k => ?_
       obtain ⟨e10, ⟨f_65, f_66, f_67, f_68⟩, hb_42⟩ := idx_bind hb_42
       iterate 4 refine dd ?_
       refine dd ?_ (by intro K k; simp (disch := omega) only [go_sem, f_67, ↓reduceIte]; exact k)
       obtain ⟨r7, hx_69, hb_42⟩ := bind_some hb_42
       refine dcl (m_cocketref01_rate_ok e10 _ hx_69) ?_
       obtain ⟨r8, hx_70, hb_42⟩ := bind_some hb_42
       refine dcl (m_cocketref01_Mul_ok c2 r7 _ hx_70) ?_
       refine dd ?_
       refine DOps.nil (by kernel_rfl) (k _ ?_)
       refine sg fun K k => ?_
       iterate 2 refine oo ?_
       refine ol ?_
       obtain ⟨hg_71, hb_42⟩ := guardO_some hb_42
       iterate 2 refine oo ?_
       refine AOps.nil (k _ ?_)
       refine AWp.exit ?_
       refine lx hb_42 fun hx => ?_; cases hx; try dsimp only at h2_41
       exact ln h2_41 sb
      ·refine AWp.skip ?_
       refine K_47 _ ?_
       refine AWp.reg ?_
       iterate 3 refine oo ?_
       refine AOps.nil ?_
       exact ln hb_42 sb
     ·rw [hg_52]
      rw [hg_52, cond_false] at hb_42
      iterate 24 refine dd ?_
      refine DOps.nil (by kernel_rfl) (k _ ?_)
      refine cdf ?_
      refine AWp.skip ?_
      refine K_47 _ ?_
      refine AWp.reg ?_
      iterate 3 refine oo ?_
      refine AOps.nil ?_
      exact ln hb_42 sb
    ·refine AWp.exit ?_
     refine lx hb_42 fun hx => ?_; cases hx; try dsimp only at h2_41
     exact ln h2_41 sb
   ·refine AWp.exit ?_
    refine lx hb_26 fun hx => ?_; cases hx; try dsimp only at h2_25
    cases h2_25; exact sb
  ·rintro L1 h; dsimp only at h ⊢
   refine sg fun K k => ?_
   iterate 3 refine oo ?_
   refine AOps.nil (k _ ?_)
   refine AWp.ret ?_
   cases h; exact rt
end Go.Pv.Tryd

