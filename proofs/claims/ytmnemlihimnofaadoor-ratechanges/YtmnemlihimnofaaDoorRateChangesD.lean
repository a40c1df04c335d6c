/- RateChanges: for every input, of whatever size and sharing, the law returns true and its arguments read as before; conditions: the variable rate.one starts as the text lays it (tied by the card). Part 4 of 6: by one AI agent and its programs; no person has read it. -/
import Derived.Test.YtmnemlihimnofaaDoorRateChangesA
import Derived.Test.YtmnemlihimnofaaDoorRateChangesB
import Derived.Test.YtmnemlihimnofaaDoorRateChangesC
set_option linter.unusedSimpArgs false
set_option linter.unusedVariables false
set_option linter.all false

set_option linter.unusedSimpArgs false
set_option linter.unusedVariables false
namespace Go.Pv

theorem gcd_some (a b : Int) (ha : 0 ≤ a ∧ a ≤ 9223372036854775807) (hb : 0 ≤ b ∧ b ≤ 9223372036854775807) : m_rate_gcd a b = some (Int.gcd a b : Int) := by
  have key : ∃ x, iter m_rate_gcd_l1 (a, b) = some x ∧ x = (Int.gcd a b : Int) := by
    refine iter_inv (fun s => 0 ≤ s.1 ∧ s.1 ≤ 9223372036854775807 ∧ 0 ≤ s.2 ∧ s.2 ≤ 9223372036854775807 ∧ Int.gcd s.1 s.2 = Int.gcd a b) _ (fun s => s.2.toNat) ?_ ⟨ha.1, ha.2, hb.1, hb.2, rfl⟩
    rintro ⟨x, y⟩ ⟨h1, h2, h3, h4, h5⟩
    dsimp only at h1 h2 h3 h4 h5
    simp only [m_rate_gcd_l1]
    by_cases hy : y = 0
    · subst hy
      simp only [not_true_eq_false, decide_false, cond_false]
      refine ⟨_, rfl, ?_⟩
      rw [← h5]; simp; omega
    · have e : decide (¬y = 0) = true := by simp [hy]
      simp only [e, cond_true]
      rw [guardO_pos (by omega)]
      have e1 := Int.emod_nonneg x (show y ≠ 0 by omega)
      have e2 := Int.emod_lt_of_pos x (show 0 < y by omega)
      rw [tmod_eq h1]
      refine ⟨_, rfl, ⟨h3, h4, e1, by dsimp only; omega, ?_⟩, by dsimp only; omega⟩
      rw [← h5, Int.gcd_comm x y]
      dsimp only
      have := Int.gcd_add_mul_left_right y (x % y) (x / y)
      rw [Int.emod_add_mul_ediv] at this
      exact this.symm
  obtain ⟨x, h1, h2⟩ := key
  simp only [m_rate_gcd, h1, Option.bind_some, h2]

theorem ratio_some (a b : Int) (ha : 1 ≤ a ∧ a ≤ 9223372036854775807) (hb : 1 ≤ b ∧ b ≤ 9223372036854775807) : m_rate_ratio a b = some (ratioN a b) := by
  have hg : 0 < Int.gcd a b := Int.gcd_pos_of_ne_zero_left _ (by omega)
  have e1 : 0 ≤ a / (Int.gcd a b : Int) := Int.ediv_nonneg (by omega) (by omega)
  have e2 : 0 ≤ b / (Int.gcd a b : Int) := Int.ediv_nonneg (by omega) (by omega)
  have e3 : a / (Int.gcd a b : Int) ≤ a := Int.ediv_le_self _ (by omega)
  have e4 : b / (Int.gcd a b : Int) ≤ b := Int.ediv_le_self _ (by omega)
  have e0 : (Int.gcd a b : Int) ≠ 0 := by omega
  simp only [m_rate_ratio, gcd_some a b ⟨by omega, ha.2⟩ ⟨by omega, hb.2⟩, Option.bind_some]
  rw [guardO_pos e0, guardO_pos e0, tdiv_eq (by omega), tdiv_eq (by omega), wrap_i64_eq (by omega), wrap_i64_eq (by omega)]
  rfl

theorem ediv_bounds {x : Int} (g : Nat) (hx : 1 ≤ x) : 0 ≤ x / (g : Int) ∧ x / (g : Int) ≤ x :=
  ⟨Int.ediv_nonneg (by omega) (by omega), Int.ediv_le_self _ (by omega)⟩

theorem mul_bounds {x y a b : Int} (hx : 0 ≤ x ∧ x ≤ a) (hy : 0 ≤ y ∧ y ≤ b) : 0 ≤ x * y ∧ x * y ≤ a * b :=
  ⟨Int.mul_nonneg hx.1 hy.1, Int.mul_le_mul hx.2 hy.2 hy.1 (by omega)⟩

theorem times_some (p q : Ratio) (hp : 1 ≤ p.Num ∧ p.Num ≤ 9223372036854775807) (hq : 1 ≤ p.Den ∧ p.Den ≤ 9223372036854775807) (hr : 1 ≤ q.Num ∧ q.Num ≤ 9223372036854775807) (hs : 1 ≤ q.Den ∧ q.Den ≤ 9223372036854775807)
    (h1 : p.Num * q.Num ≤ 9223372036854775807) (h2 : p.Den * q.Den ≤ 9223372036854775807) : m_rate_times p q = some (timesN p q) := by
  have g1 : 0 < Int.gcd p.Num q.Den := Int.gcd_pos_of_ne_zero_left _ (by omega)
  have g2 : 0 < Int.gcd q.Num p.Den := Int.gcd_pos_of_ne_zero_left _ (by omega)
  have e1 := ediv_bounds (Int.gcd p.Num q.Den) hp.1
  have e2 := ediv_bounds (Int.gcd p.Num q.Den) hs.1
  have e3 := ediv_bounds (Int.gcd q.Num p.Den) hr.1
  have e4 := ediv_bounds (Int.gcd q.Num p.Den) hq.1
  have m1 := mul_bounds e1 e3
  have m2 := mul_bounds e4 e2
  have n1 : (Int.gcd p.Num q.Den : Int) ≠ 0 := by omega
  have n2 : (Int.gcd q.Num p.Den : Int) ≠ 0 := by omega
  simp only [m_rate_times, gcd_some p.Num q.Den ⟨by omega, hp.2⟩ ⟨by omega, hs.2⟩, gcd_some q.Num p.Den ⟨by omega, hr.2⟩ ⟨by omega, hq.2⟩, Option.bind_some]
  rw [guardO_pos n1, guardO_pos n2, guardO_pos n2, guardO_pos n1]
  simp (disch := omega) only [tdiv_eq, wrap_i64_eq]
  rfl

theorem ediv_pos1 {x : Int} (g : Nat) (hg : 0 < g) (hx : 1 ≤ x) (hd : (g : Int) ∣ x) : 1 ≤ x / (g : Int) := by
  obtain ⟨c, rfl⟩ := hd
  rw [Int.mul_ediv_cancel_left _ (by omega)]
  rcases Int.lt_or_le c 1 with h | h
  · have := Int.mul_le_mul_of_nonneg_left (show c ≤ 0 by omega) (show (0 : Int) ≤ g by omega)
    omega
  · exact h

theorem ratioN_bounds {a b n : Int} (ha : 1 ≤ a ∧ a ≤ n) (hb : 1 ≤ b ∧ b ≤ n) : 1 ≤ (ratioN a b).Num ∧ (ratioN a b).Num ≤ n ∧ 1 ≤ (ratioN a b).Den ∧ (ratioN a b).Den ≤ n := by
  have hg : 0 < Int.gcd a b := Int.gcd_pos_of_ne_zero_left _ (by omega)
  have e1 := ediv_bounds (Int.gcd a b) ha.1
  have e2 := ediv_bounds (Int.gcd a b) hb.1
  have p1 := ediv_pos1 _ hg ha.1 (Int.gcd_dvd_left _ _)
  have p2 := ediv_pos1 _ hg hb.1 (Int.gcd_dvd_right _ _)
  simp only [ratioN]
  omega

theorem mul_pos1 {x y : Int} (hx : 1 ≤ x) (hy : 1 ≤ y) : 1 ≤ x * y := by
  have := Int.mul_pos (show 0 < x by omega) (show 0 < y by omega)
  omega

theorem timesN_bounds {p q : Ratio} {a b : Int} (h1 : 1 ≤ p.Num ∧ p.Num ≤ a) (h2 : 1 ≤ p.Den ∧ p.Den ≤ a) (h3 : 1 ≤ q.Num ∧ q.Num ≤ b) (h4 : 1 ≤ q.Den ∧ q.Den ≤ b) :
    1 ≤ (timesN p q).Num ∧ (timesN p q).Num ≤ a * b ∧ 1 ≤ (timesN p q).Den ∧ (timesN p q).Den ≤ a * b := by
  have g1 : 0 < Int.gcd p.Num q.Den := Int.gcd_pos_of_ne_zero_left _ (by omega)
  have g2 : 0 < Int.gcd q.Num p.Den := Int.gcd_pos_of_ne_zero_left _ (by omega)
  have e1 := ediv_bounds (Int.gcd p.Num q.Den) h1.1
  have e2 := ediv_bounds (Int.gcd p.Num q.Den) h4.1
  have e3 := ediv_bounds (Int.gcd q.Num p.Den) h3.1
  have e4 := ediv_bounds (Int.gcd q.Num p.Den) h2.1
  have p1 := ediv_pos1 _ g1 h1.1 (Int.gcd_dvd_left _ _)
  have p2 := ediv_pos1 _ g1 h4.1 (Int.gcd_dvd_right _ _)
  have p3 := ediv_pos1 _ g2 h3.1 (Int.gcd_dvd_left _ _)
  have p4 := ediv_pos1 _ g2 h2.1 (Int.gcd_dvd_right _ _)
  have m1 := mul_bounds (a := a) (b := b) ⟨e1.1, by omega⟩ ⟨e3.1, by omega⟩
  have m2 := mul_bounds (a := a) (b := b) ⟨e4.1, by omega⟩ ⟨e2.1, by omega⟩
  have n1 := mul_pos1 p1 p3
  have n2 := mul_pos1 p4 p2
  simp only [timesN]
  exact ⟨n1, m1.2, n2, m2.2⟩

end Go.Pv

set_option linter.unusedSimpArgs false
set_option linter.unusedVariables false
namespace Go.Pv

theorem pow50_le {a b : Nat} (h : a ≤ b) : (50 : Int) ^ a ≤ 50 ^ b := by
  induction b with
  | zero => have : a = 0 := by omega
            subst this; exact Int.le_refl _
  | succ b ih =>
    rcases Nat.lt_or_ge a (b + 1) with h1 | h1
    · have := ih (by omega)
      have h0 : (0 : Int) ≤ 50 ^ b := Int.pow_nonneg (by omega)
      rw [Int.pow_succ]; omega
    · have : a = b + 1 := by omega
      subst this; exact Int.le_refl _

theorem times_ratio {c : Ratio} {o : Offer} {k : Nat} (hk : k ≤ 8) (h1 : 1 ≤ c.Num ∧ c.Num ≤ 50 ^ k) (h2 : 1 ≤ c.Den ∧ c.Den ≤ 50 ^ k) (h3 : 1 ≤ o.Num ∧ o.Num ≤ 50) (h4 : 1 ≤ o.Den ∧ o.Den ≤ 50) :
    m_rate_ratio o.Num o.Den = some (ratioN o.Num o.Den) ∧ m_rate_times c (ratioN o.Num o.Den) = some (timesN c (ratioN o.Num o.Den)) ∧
      1 ≤ (timesN c (ratioN o.Num o.Den)).Num ∧ (timesN c (ratioN o.Num o.Den)).Num ≤ 50 ^ (k + 1) ∧ 1 ≤ (timesN c (ratioN o.Num o.Den)).Den ∧ (timesN c (ratioN o.Num o.Den)).Den ≤ 50 ^ (k + 1) := by
  have hr := ratioN_bounds (a := o.Num) (b := o.Den) (n := 50) h3 h4
  have ht := timesN_bounds (p := c) (q := ratioN o.Num o.Den) (a := 50 ^ k) (b := 50) h1 h2 ⟨hr.1, hr.2.1⟩ ⟨hr.2.2.1, hr.2.2.2⟩
  have hp : (50 : Int) ^ k ≤ 39062500000000 := by
    have : (50 : Int) ^ k ≤ 50 ^ 8 := pow50_le hk
    have e : (50 : Int) ^ 8 = 39062500000000 := by decide
    omega
  have m1 := mul_bounds (x := c.Num) (y := (ratioN o.Num o.Den).Num) (a := 39062500000000) (b := 50) ⟨by omega, by omega⟩ ⟨by omega, by omega⟩
  have m2 := mul_bounds (x := c.Den) (y := (ratioN o.Num o.Den).Den) (a := 39062500000000) (b := 50) ⟨by omega, by omega⟩ ⟨by omega, by omega⟩
  refine ⟨ratio_some _ _ ⟨by omega, by omega⟩ ⟨by omega, by omega⟩, times_some _ _ ⟨by omega, by omega⟩ ⟨by omega, by omega⟩ ⟨by omega, by omega⟩ ⟨by omega, by omega⟩ (by omega) (by omega), ?_⟩
  rw [Int.pow_succ]
  exact ht

/-- What a walk must be. -/
theorem follow_walk (n : Int) (l : List Offer) (w : List Int) (h0 : ofCode n l = 0) (hw : w.length ≤ 20) : ∀ (k : Nat) (v : Int) (c : Ratio) (L : List Int), k = (w.length - v).toNat → 0 ≤ v →
    (∀ e ∈ w.take v.toNat, 0 ≤ e ∧ e < l.length) → (1 ≤ c.Num ∧ c.Num ≤ 50 ^ min v.toNat 7) → (1 ≤ c.Den ∧ c.Den ≤ 50 ^ min v.toNat 7) → ((L.length : Int) ≤ v + 1 ∧ (v = 0 → L = [])) →
    ∃ y z, iter (m_rate_market_follow_l1 ⟨n, l⟩ w) (v, c, L) = some y ∧ iter (m_cocketref01_Walk_l1 l w) v = some z ∧
      (((∃ p, y = .inl p) ∧ z = .inl () ∧ ∀ e ∈ w, 0 ≤ e ∧ e < l.length) ∨ ((∃ p q, y = .inr (p, q, false)) ∧ z = .inr false)) := by
  obtain ⟨hn1, hn2, hl, hok⟩ := ofCode_zero h0
  intro k
  induction k with
  | zero =>
    intro v c L hk hv hpre hc1 hc2 hL
    have h : decide (v < (w.length : Int)) = false := by simp; omega
    rw [List.take_of_length_le (by omega)] at hpre
    refine ⟨.inl (c, L), .inl (), ?_, ?_, .inl ⟨⟨_, rfl⟩, rfl, hpre⟩⟩
    · rw [iter_eq, m_rate_market_follow_l1, h]; rfl
    · rw [iter_eq, m_cocketref01_Walk_l1, h]; rfl
  | succ k ih =>
    intro v c L hk hv hpre hc1 hc2 hL
    have hlt : v < (w.length : Int) := by omega
    have h : decide (v < (w.length : Int)) = true := by simp; omega
    obtain ⟨e, h1, h2, h3, _⟩ := idx_lt hv hlt
    have htake : w.take (v + 1).toNat = w.take v.toNat ++ [e] := by
      have : (v + 1).toNat = v.toNat + 1 := by omega
      rw [this, List.take_add_one, h2]; rfl
    rw [iter_eq, m_rate_market_follow_l1, h, iter_eq (m_cocketref01_Walk_l1 l w), m_cocketref01_Walk_l1, h]
    simp only [cond_true, h1, Option.bind_some]
    by_cases he1 : e < 0
    · have : decide (e < 0) = true := by simpa using he1
      simp only [this, cond_true, Option.bind_some]
      exact ⟨_, _, rfl, rfl, .inr ⟨⟨_, _, rfl⟩, rfl⟩⟩
    have d1 : decide (e < 0) = false := by simpa using he1
    simp only [d1, cond_false, Option.bind_some]
    by_cases he2 : (l.length : Int) ≤ e
    · have : decide ((l.length : Int) ≤ e) = true := by simpa using he2
      simp only [this, cond_true, Option.bind_some]
      exact ⟨_, _, rfl, rfl, .inr ⟨⟨_, _, rfl⟩, rfl⟩⟩
    have d2 : decide ((l.length : Int) ≤ e) = false := by simpa using he2
    simp only [d2, cond_false, Option.bind_some]
    obtain ⟨o, g1, g2, g3, g4⟩ := idx_lt (l := l) (i := e) (by omega) (by omega)
    have hgo := hok o g4
    simp only [offerOk, goodOffer, Bool.and_eq_true, decide_eq_true_eq] at hgo
    have hin : ∀ x ∈ w.take (v + 1).toNat, 0 ≤ x ∧ x < l.length := by
      rw [htake]
      intro x hx
      rcases List.mem_append.1 hx with hx | hx
      · exact hpre x hx
      · rw [List.mem_singleton] at hx; subst hx; omega
    have hstep : ∃ c', (∀ L2 : List Int, (cond (decide (v ≤ n)) ((m_rate_ratio o.Num o.Den).bind fun r5 => (m_rate_times c r5).bind fun r6 => some (.inl (r6, L2))) (some (.inl (c, L2))) : Option ((Ratio × List Int) ⊕ (Ratio × List Int × Bool))) = some (.inl (c', L2))) ∧
        (1 ≤ c'.Num ∧ c'.Num ≤ 50 ^ min (v + 1).toNat 7) ∧ (1 ≤ c'.Den ∧ c'.Den ≤ 50 ^ min (v + 1).toNat 7) := by
      by_cases hvn : v ≤ n
      · have d : decide (v ≤ n) = true := by simpa using hvn
        have hm : min v.toNat 7 = v.toNat := by omega
        rw [hm] at hc1 hc2
        obtain ⟨r1, r2, r3, r4, r5, r6⟩ := times_ratio (c := c) (o := o) (k := v.toNat) (by omega) hc1 hc2 ⟨by omega, by omega⟩ ⟨by omega, by omega⟩
        have hm2 : min (v + 1).toNat 7 = v.toNat + 1 := by omega
        refine ⟨_, fun L2 => ?_, by rw [hm2]; exact ⟨r3, r4⟩, by rw [hm2]; exact ⟨r5, r6⟩⟩
        simp only [d, cond_true, r1, r2, Option.bind_some]
      · have d : decide (v ≤ n) = false := by simpa using hvn
        have hmm := pow50_le (a := min v.toNat 7) (b := min (v + 1).toNat 7) (by omega)
        refine ⟨c, fun L2 => ?_, ⟨hc1.1, by omega⟩, ⟨hc2.1, by omega⟩⟩
        simp only [d, cond_false]
    obtain ⟨c', hs1, hs2, hs3⟩ := hstep
    have hih := fun (L2 : List Int) (hL2 : (L2.length : Int) ≤ v + 1 + 1) => ih (v + 1) c' L2 (by omega) (by omega) hin hs2 hs3 ⟨hL2, by omega⟩
    by_cases hv0 : 0 < v
    · have d3 : decide (0 < v) = true := by simpa using hv0
      have hwv : IntKind.i64.wrap (v - 1) = v - 1 := wrap_i64_eq (by omega)
      have d4 : decide (v = 0) = false := by simp; omega
      obtain ⟨e', q1, q2, q3, q4⟩ := idx_lt (l := w) (i := v - 1) (by omega) (by omega)
      have hmem : e' ∈ w.take v.toNat := by
        rw [List.mem_take_iff_getElem]
        obtain ⟨a1, a2⟩ := List.getElem?_eq_some_iff.1 q2
        exact ⟨(v - 1).toNat, by omega, a2⟩
      have hp := hpre e' hmem
      obtain ⟨o', g1', g2', g3', g4'⟩ := idx_lt (l := l) (i := e') hp.1 (by omega)
      simp only [d3, cond_true, g1, hwv, q1, g1', Option.bind_some]
      by_cases hft : o.From = o'.To
      · have d5 : decide (¬o.From = o'.To) = false := by simpa using hft
        have d6 : decide (¬o'.To = o.From) = false := by simp [hft]
        simp only [d5, d6, cond_false, d4, Option.bind_some]
        rw [guardO_pos (by simp; omega), wrap_i64_eq (x := v + 1) (by omega), hs1]
        exact hih _ (by simp; omega)
      · have d5 : decide (¬o.From = o'.To) = true := by simpa using hft
        have d6 : decide (¬o'.To = o.From) = true := by simp; exact fun h => hft h.symm
        simp only [d5, d6, cond_true, Option.bind_some]
        exact ⟨_, _, rfl, rfl, .inr ⟨⟨_, _, rfl⟩, rfl⟩⟩
    · have d3 : decide (0 < v) = false := by simpa using hv0
      have d4 : decide (v = 0) = true := by simp; omega
      simp only [d3, cond_false, g1, d4, cond_true, Option.bind_some]
      rw [guardO_pos (by simp; omega)]
      simp only [Option.bind_some]
      rw [guardO_pos (by simp; omega), wrap_i64_eq (x := v + 1) (by omega), hs1]
      exact hih _ (by have := hL.2 (by omega); subst this; simp; omega)

theorem change_some (n : Int) (l : List Offer) (w : List Int) (h0 : ofCode n l = 0) (hw : w.length ≤ 20) (hin : ∀ e ∈ w, 0 ≤ e ∧ e < l.length) (a : Int) (ha : 0 ≤ a ∧ a ≤ 1099511627776) : ∃ x, iter (m_rate_Change_l1 l w) (a, 0) = some x := by
  obtain ⟨hn1, hn2, hl, hok⟩ := ofCode_zero h0
  have key : ∃ x, iter (m_rate_Change_l1 l w) (a, 0) = some x ∧ True := by
    refine iter_inv (fun s => 0 ≤ s.1 ∧ s.1 ≤ 1099511627776 ∧ 0 ≤ s.2) _ (fun s : Int × Int => ((w.length : Int) - s.2).toNat) ?_ ⟨ha.1, ha.2, by simp⟩
    rintro ⟨x, v⟩ ⟨h1, h2, h3⟩
    dsimp only at h1 h2 h3
    rw [m_rate_Change_l1]
    by_cases hv : v < (w.length : Int)
    · have d : decide (v < (w.length : Int)) = true := by simpa using hv
      obtain ⟨e, q1, q2, q3, q4⟩ := idx_lt h3 hv
      have he := hin e q4
      obtain ⟨o, g1, g2, g3, g4⟩ := idx_lt (l := l) (i := e) he.1 he.2
      have hgo := hok o g4
      simp only [offerOk, goodOffer, Bool.and_eq_true, decide_eq_true_eq] at hgo
      simp only [d, cond_true, q1, g1, Option.bind_some]
      rw [guardO_pos (by omega)]
      have m1 := mul_bounds (x := x) (y := o.Num) (a := 1099511627776) (b := 50) ⟨h1, h2⟩ ⟨by omega, by omega⟩
      have m2 := Int.ediv_nonneg m1.1 (show 0 ≤ o.Den by omega)
      have m3 := Int.ediv_le_self o.Den m1.1
      have e1 : IntKind.i64.wrap ((IntKind.i64.wrap (x * o.Num)).tdiv o.Den) = x * o.Num / o.Den := by
        rw [wrap_i64_eq (x := x * o.Num) (by omega), tdiv_eq m1.1, wrap_i64_eq (by omega)]
      rw [e1]
      by_cases hc : 1099511627776 < x * o.Num / o.Den
      · have d2 : decide (1099511627776 < x * o.Num / o.Den) = true := by simpa using hc
        rw [d2]
        exact ⟨_, rfl, trivial⟩
      · have d2 : decide (1099511627776 < x * o.Num / o.Den) = false := by simpa using hc
        rw [d2, wrap_i64_eq (by omega)]
        exact ⟨_, rfl, ⟨m2, by dsimp only; omega, by dsimp only; omega⟩, by dsimp only; omega⟩
    · have d : decide (v < (w.length : Int)) = false := by simpa using hv
      simp only [d, cond_false]
      exact ⟨_, rfl, trivial⟩
  obtain ⟨x, hx, _⟩ := key
  exact ⟨x, hx⟩

/-- Whether a walk holds together is always told. -/
theorem walk_some (l : List Offer) (w : List Int) (hl : l.length ≤ 100) (hw : w.length ≤ 100) : ∃ b, m_cocketref01_Walk l w = some b := by
  have key : ∃ x, iter (m_cocketref01_Walk_l1 l w) 0 = some x ∧ True := by
    refine iter_inv (fun v : Int => 0 ≤ v ∧ ∀ e ∈ w.take v.toNat, 0 ≤ e ∧ e < l.length) _ (fun v : Int => ((w.length : Int) - v).toNat) ?_ ⟨by omega, by simp⟩
    rintro v ⟨h3, hpre⟩
    rw [m_cocketref01_Walk_l1]
    by_cases hv : v < (w.length : Int)
    · have d : decide (v < (w.length : Int)) = true := by simpa using hv
      obtain ⟨e, q1, q2, q3, q4⟩ := idx_lt h3 hv
      have htake : w.take (v + 1).toNat = w.take v.toNat ++ [e] := by
        have : (v + 1).toNat = v.toNat + 1 := by omega
        rw [this, List.take_add_one, q2]; rfl
      simp only [d, cond_true, q1, Option.bind_some]
      by_cases he1 : e < 0
      · have d1 : decide (e < 0) = true := by simpa using he1
        rw [d1]; exact ⟨_, rfl, trivial⟩
      have d1 : decide (e < 0) = false := by simpa using he1
      by_cases he2 : (l.length : Int) ≤ e
      · have d2 : decide ((l.length : Int) ≤ e) = true := by simpa using he2
        rw [d1, d2]; exact ⟨_, rfl, trivial⟩
      have d2 : decide ((l.length : Int) ≤ e) = false := by simpa using he2
      simp only [d1, d2, cond_false]
      have hin : ∀ x ∈ w.take (v + 1).toNat, 0 ≤ x ∧ x < l.length := by
        rw [htake]
        intro x hx
        rcases List.mem_append.1 hx with hx | hx
        · exact hpre x hx
        · rw [List.mem_singleton] at hx; subst hx; omega
      by_cases hv0 : 0 < v
      · have d3 : decide (0 < v) = true := by simpa using hv0
        have hwv : IntKind.i64.wrap (v - 1) = v - 1 := wrap_i64_eq (by omega)
        obtain ⟨e', r1, r2, r3, r4⟩ := idx_lt (l := w) (i := v - 1) (by omega) (by omega)
        have hmem : e' ∈ w.take v.toNat := by
          rw [List.mem_take_iff_getElem]
          obtain ⟨a1, a2⟩ := List.getElem?_eq_some_iff.1 r2
          exact ⟨(v - 1).toNat, by omega, a2⟩
        have hp := hpre e' hmem
        obtain ⟨o', g1', g2', g3', g4'⟩ := idx_lt (l := l) (i := e') hp.1 (by omega)
        obtain ⟨o, g1, g2, g3, g4⟩ := idx_lt (l := l) (i := e) (by omega) (by omega)
        simp only [d3, cond_true, hwv, r1, g1', g1, Option.bind_some]
        by_cases hft : o'.To = o.From
        · have d6 : decide (¬o'.To = o.From) = false := by simp [hft]
          rw [d6, wrap_i64_eq (by omega)]
          exact ⟨_, rfl, ⟨by omega, hin⟩, by omega⟩
        · have d6 : decide (¬o'.To = o.From) = true := by simpa using hft
          rw [d6]
          exact ⟨_, rfl, trivial⟩
      · have d3 : decide (0 < v) = false := by simpa using hv0
        simp only [d3, cond_false]
        rw [wrap_i64_eq (by omega)]
        exact ⟨_, rfl, ⟨by omega, hin⟩, by omega⟩
    · have d : decide (v < (w.length : Int)) = false := by simpa using hv
      simp only [d, cond_false]
      exact ⟨_, rfl, trivial⟩
  obtain ⟨x, hx, _⟩ := key
  rw [m_cocketref01_Walk, hx]
  rcases x with x | x
  · exact ⟨_, rfl⟩
  · exact ⟨_, rfl⟩

theorem change_eq (n : Int) (l : List Offer) (w : List Int) (a : Int) (hw : w.length ≤ 40) : ∃ r, m_rate_Change n l w a = some r ∧ m_cocketref01_Change n l w a = some r := by
  rw [m_rate_Change, of_eq, m_cocketref01_Change, Good_eq]
  simp only [Option.bind_some]
  by_cases h0 : ofCode n l = 0
  rotate_left
  · have d : decide (¬ofCode n l = 0) = true := by simpa using h0
    rw [if_neg h0]
    simp only [d, cond_true]
    exact ⟨_, rfl, rfl⟩
  have d : decide (¬ofCode n l = 0) = false := by simpa using h0
  rw [if_pos h0]
  simp only [d, cond_false, not_true_eq_false, decide_false]
  obtain ⟨hn1, hn2, hl, hok⟩ := ofCode_zero h0
  rcases Bool.eq_false_or_eq_true ((decide (20 < (w.length : Int)) || decide (a < 0)) || decide (1099511627776 < a)) with hc | hc
  · obtain ⟨b, hb⟩ := walk_some l w (by omega) (by omega)
    have e : (((!b || decide (20 < (w.length : Int))) || decide (a < 0)) || decide (1099511627776 < a)) = true := by
      rw [Bool.or_assoc, Bool.or_assoc] at *
      rw [hc, Bool.or_true]
    simp only [hc, cond_true, hb, Option.bind_some, e]
    exact ⟨_, rfl, rfl⟩
  have hc2 := hc
  simp only [Bool.or_eq_false_iff, decide_eq_false_iff_not] at hc2
  obtain ⟨y, z, h1, h2, h3⟩ := follow_walk n l w h0 (by omega) _ 0 ⟨1, 1⟩ [] rfl (by omega) (by simp) (by simp) (by simp) ⟨by simp, fun _ => rfl⟩
  rw [hc, cond_false, m_rate_market_follow, h1, m_cocketref01_Walk, h2]
  rcases h3 with ⟨⟨p, rfl⟩, rfl, hin⟩ | ⟨⟨p, q, rfl⟩, rfl⟩
  · have e : (((!true || decide (20 < (w.length : Int))) || decide (a < 0)) || decide (1099511627776 < a)) = false := by
      rw [Bool.not_true, Bool.false_or]; exact hc
    have e' : (((false || decide (20 < (w.length : Int))) || decide (a < 0)) || decide (1099511627776 < a)) = false := e
    simp only [Option.bind_some, e', cond_false, Bool.not_true]
    obtain ⟨x, hx⟩ := change_some n l w h0 (by omega) hin a ⟨by omega, by omega⟩
    have hx2 : iter (m_cocketref01_Change_l1 l w) (a, 0) = some x := hx
    rw [hx, hx2]
    rcases x with x | x
    · exact ⟨_, rfl, rfl⟩
    · exact ⟨_, rfl, rfl⟩
  · have e : (((!false || decide (20 < (w.length : Int))) || decide (a < 0)) || decide (1099511627776 < a)) = true := by
      rw [Bool.not_false, Bool.true_or, Bool.true_or, Bool.true_or]
    have e' : (((true || decide (20 < (w.length : Int))) || decide (a < 0)) || decide (1099511627776 < a)) = true := e
    simp only [Option.bind_some, e', cond_true, Bool.not_false]
    exact ⟨_, rfl, rfl⟩

theorem RateChanges_true (ha : m_cocketlaw01_alive = some true) (n : Int) (l : List Offer) (w : List Int) (a : Int) : m_cocketlaw01_RateChanges n l w a = some true := by
  rw [m_cocketlaw01_RateChanges, m_cocketlaw01_few]
  simp only [Option.bind_some]
  rcases Bool.eq_false_or_eq_true (!decide ((l.length : Int) ≤ 60) || decide (40 < (w.length : Int))) with h | h
  · rw [h, ha]; rfl
  · have hh := h
    simp only [Bool.or_eq_false_iff, decide_eq_false_iff_not] at hh
    obtain ⟨r, h1, h2⟩ := change_eq n l w a (by omega)
    rw [h, h1, h2, ha]
    simp

end Go.Pv

set_option linter.unusedSimpArgs false
set_option linter.unusedVariables false
namespace Go.Pv

def foldUp {S : Type} (h : Int → S → S) : Nat → Int → S → S
  | 0, _, s => s
  | k + 1, i, s => foldUp h k (i + 1) (h i s)

theorem forUp_some {S : Type} {g : Int → S → Option S} {h : Int → S → S} {P : Int → S → Prop} : ∀ {k : Nat} {i : Int} {s : S}, (∀ j s, i ≤ j → j < i + k → P j s → g j s = some (h j s) ∧ P (j + 1) (h j s)) → P i s →
    forUp g k i s = some (foldUp h k i s) ∧ P (i + k) (foldUp h k i s)
  | 0, i, s, _, hp => ⟨rfl, by rw [show i + ((0 : Nat) : Int) = i by omega]; exact hp⟩
  | k + 1, i, s, hg, hp => by
    obtain ⟨h1, h2⟩ := hg i s (by omega) (by omega) hp
    have := forUp_some (k := k) (i := i + 1) (s := h i s) (fun j s h3 h4 h5 => hg j s (by omega) (by omega) h5) h2
    simp only [forUp, foldUp, h1, Option.bind_some]
    rw [show i + ((k + 1 : Nat) : Int) = i + 1 + (k : Int) by omega]
    exact this

/-- A counted loop that never fails. -/
theorem iter_fold {S X : Type} {f : Int × S → Option ((Int × S) ⊕ X)} {n : Int} {g : Int → S → Option S} {e : S → X} {h : Int → S → S} (P : Int → S → Prop) (hn : n ≤ 9223372036854775807)
    (hf : ∀ i s, f (i, s) = cond (decide (i < n)) ((g i s).bind fun s' => some (.inl (IntKind.i64.wrap (i + 1), s'))) (some (.inr (e s)))) {i : Int} {s : S} (h0 : 0 ≤ i)
    (hg : ∀ j s, i ≤ j → j < n → P j s → g j s = some (h j s) ∧ P (j + 1) (h j s)) (hp : P i s) : iter f (i, s) = some (e (foldUp h (n - i).toNat i s)) ∧ P (i + (n - i).toNat) (foldUp h (n - i).toNat i s) := by
  obtain ⟨h1, h2⟩ := forUp_some (k := (n - i).toNat) (i := i) (s := s) (g := g) (h := h) (P := P) (fun j s h3 h4 h5 => hg j s h3 (by omega) h5) hp
  rw [iter_for hn hf _ i s rfl h0, h1]
  exact ⟨rfl, h2⟩

/-! ## Orders of lists -/

def cmpL : List Int → List Int → Int
  | [], [] => 0
  | [], _ :: _ => -1
  | _ :: _, [] => 1
  | x :: xs, y :: ys => if x < y then -1 else if y < x then 1 else cmpL xs ys

theorem cmp_Compare (x y : Int) : m_cmp_Compare x y = some (if x < y then -1 else if y < x then 1 else 0) := by
  have h : ∀ x, m_cmp_isNaN x = some false := fun x => by simp [m_cmp_isNaN]
  rw [m_cmp_Compare, h, h]
  simp only [Option.bind_some, cond_false]
  by_cases h1 : x < y
  · simp [h1]
  by_cases h2 : y < x
  · simp [h1, h2]
  · simp [h1, h2]

theorem Compare_l1 (s t : List Int) (hs : s.length ≤ 1000000) (ht : t.length ≤ 1000000) : ∀ (k : Nat) (i : Int), k = (s.length - i).toNat → 0 ≤ i → i ≤ t.length →
    iter (m_slices_Compare_l1 s t) i = some (if s.length ≤ t.length ∧ s.drop i.toNat <+: t.drop i.toNat then .inl () else .inr (cmpL (s.drop i.toNat) (t.drop i.toNat)))
  | 0, i, hk, hi, ht => by
    have h : decide (i < (s.length : Int)) = false := by simp; omega
    have hd : s.drop i.toNat = [] := List.drop_of_length_le (by omega)
    rw [iter_eq, m_slices_Compare_l1, h, if_pos ⟨by omega, by rw [hd]; exact List.nil_prefix⟩]
    rfl
  | k + 1, i, hk, hi, hit => by
    have hlt : i < (s.length : Int) := by omega
    have h : decide (i < (s.length : Int)) = true := by simp; omega
    obtain ⟨x, h1, h2, h3, _⟩ := idx_lt hi hlt
    rw [iter_eq, m_slices_Compare_l1, h]
    simp only [cond_true, h1, Option.bind_some]
    by_cases hti : (t.length : Int) ≤ i
    · have d : decide ((t.length : Int) ≤ i) = true := by simpa using hti
      have hd : t.drop i.toNat = [] := List.drop_of_length_le (by omega)
      rw [d, hd, h3, if_neg (by omega)]
      rfl
    have d : decide ((t.length : Int) ≤ i) = false := by simpa using hti
    obtain ⟨y, g1, g2, g3, _⟩ := idx_lt (l := t) hi (by omega)
    simp only [d, cond_false, g1, Option.bind_some, cmp_Compare]
    rw [h3, g3]
    have ih := Compare_l1 s t hs ht k (i + 1) (by omega) (by omega) (by omega)
    have e1 : (i + 1).toNat = i.toNat + 1 := by omega
    rw [e1] at ih
    by_cases c1 : x < y
    · have e : decide (¬(if x < y then (-1 : Int) else if y < x then 1 else 0) = 0) = true := by simp [c1]
      have hng : ¬ (s.length ≤ t.length ∧ x :: s.drop (i.toNat + 1) <+: y :: t.drop (i.toNat + 1)) := fun h => by
        have := (List.cons_prefix_cons.1 h.2).1
        omega
      rw [if_neg hng]
      simp [e, c1, cmpL]
    by_cases c2 : y < x
    · have e : decide (¬(if x < y then (-1 : Int) else if y < x then 1 else 0) = 0) = true := by simp [c1, c2]
      have hng : ¬ (s.length ≤ t.length ∧ x :: s.drop (i.toNat + 1) <+: y :: t.drop (i.toNat + 1)) := fun h => by
        have := (List.cons_prefix_cons.1 h.2).1
        omega
      rw [if_neg hng]
      simp [e, c1, c2, cmpL]
    · have e : decide (¬(if x < y then (-1 : Int) else if y < x then 1 else 0) = 0) = false := by simp [c1, c2]
      have exy : x = y := by omega
      subst exy
      rw [e, wrap_i64_eq (by omega)]
      simp only [cond_false, Option.bind_some, ih, cmpL, c1, if_false, List.cons_prefix_cons, true_and]

theorem cmpL_prefix : ∀ {s t : List Int}, s <+: t → cmpL s t = if s.length < t.length then -1 else 0
  | [], [], _ => rfl
  | [], _ :: _, _ => rfl
  | x :: s, [], h => by simp at h
  | x :: s, y :: t, h => by
    rw [List.cons_prefix_cons] at h
    obtain ⟨rfl, h⟩ := h
    simp only [cmpL, Int.lt_irrefl, if_false, cmpL_prefix h, List.length_cons, Nat.add_lt_add_iff_right]

theorem Compare_eq (s t : List Int) (hs : s.length ≤ 1000000) (ht : t.length ≤ 1000000) : m_slices_Compare s t = some (cmpL s t) := by
  rw [m_slices_Compare, Compare_l1 s t hs ht _ 0 rfl (by omega) (by omega)]
  simp only [Int.toNat_zero, List.drop_zero]
  by_cases h : s.length ≤ t.length ∧ s <+: t
  · rw [if_pos h, cmpL_prefix h.2]
    simp only [Option.bind_some]
    by_cases c : s.length < t.length
    · have d : decide ((s.length : Int) < (t.length : Int)) = true := by simp; omega
      simp [c]
    · have d : decide ((s.length : Int) < (t.length : Int)) = false := by simp; omega
      simp [c]
  · rw [if_neg h]; rfl

theorem same_l1 (a b : List Int) (ha : a.length ≤ 1000000) (hl : a.length = b.length) : ∀ (k : Nat) (i : Int), k = (a.length - i).toNat → 0 ≤ i →
    iter (m_cocketlaw01_same_l1 a b) i = some (if a.drop i.toNat = b.drop i.toNat then .inl () else .inr false)
  | 0, i, hk, hi => by
    have h : decide (i < (a.length : Int)) = false := by simp; omega
    rw [iter_eq, m_cocketlaw01_same_l1, h, List.drop_of_length_le (by omega), List.drop_of_length_le (by omega)]
    rfl
  | k + 1, i, hk, hi => by
    have hlt : i < (a.length : Int) := by omega
    have h : decide (i < (a.length : Int)) = true := by simp; omega
    obtain ⟨x, h1, h2, h3, _⟩ := idx_lt hi hlt
    obtain ⟨y, g1, g2, g3, _⟩ := idx_lt (l := b) hi (by omega)
    have ih := same_l1 a b ha hl k (i + 1) (by omega) (by omega)
    have e1 : (i + 1).toNat = i.toNat + 1 := by omega
    rw [e1] at ih
    rw [iter_eq, m_cocketlaw01_same_l1, h]
    simp only [cond_true, h1, g1, Option.bind_some, h3, g3]
    by_cases c : x = y
    · have d : decide (¬x = y) = false := by simp [c]
      rw [d, wrap_i64_eq (by omega)]
      simp only [cond_false, Option.bind_some, ih, List.cons.injEq, c, true_and]
    · have d : decide (¬x = y) = true := by simp [c]
      rw [d]
      simp [c]

theorem same_eq (a b : List Int) (ha : a.length ≤ 1000000) : m_cocketlaw01_same a b = some (decide (a = b)) := by
  rw [m_cocketlaw01_same]
  by_cases hl : a.length = b.length
  · have d : decide (¬(a.length : Int) = (b.length : Int)) = false := by simp [hl]
    rw [d, same_l1 a b ha hl _ 0 rfl (by omega)]
    simp only [Int.toNat_zero, List.drop_zero, cond_false]
    by_cases h : a = b
    · rw [if_pos h]; simp [h]
    · rw [if_neg h]; simp [h]
  · have d : decide (¬(a.length : Int) = (b.length : Int)) = true := by simp; omega
    have hne : a ≠ b := fun h => hl (by rw [h])
    rw [d]; simp [hne]

/-! ## Walks -/

theorem walkOn_facts (n : Int) (offers : List Offer) (ho : ∀ o ∈ offers, goodOffer n o = true) (frm length : Int) (rounds : Bool) : ∀ (k : Nat) (w : Walk) (s : List Bool), (1 ≤ w.rate.Num ∧ w.rate.Num ≤ 50 ^ w.list.length) → (1 ≤ w.rate.Den ∧ w.rate.Den ≤ 50 ^ w.list.length) →
    ∀ x ∈ walkOn offers frm length rounds k w s, (x.list.length : Int) = length ∧ (1 ≤ x.rate.Num ∧ x.rate.Num ≤ 50 ^ x.list.length) ∧ (1 ≤ x.rate.Den ∧ x.rate.Den ≤ 50 ^ x.list.length)
  | 0, w, s, _, _, x, hx => by simp [walkOn] at hx
  | k + 1, w, s, h1, h2, x, hx => by
    rw [walkOn] at hx
    by_cases he : (w.list.length : Int) = length
    · rw [if_pos he] at hx
      split at hx
      · simp at hx
      · rw [List.mem_singleton] at hx; subst hx; exact ⟨he, h1, h2⟩
    · rw [if_neg he, List.mem_flatMap] at hx
      obtain ⟨⟨o, i⟩, hm, hx⟩ := hx
      split at hx
      · simp at hx
      have hmo : o ∈ offers := by
        rw [List.mem_zipIdx_iff_getElem?] at hm
        exact List.mem_of_getElem? hm
      have hg := ho o hmo
      simp only [goodOffer, decide_eq_true_eq] at hg
      have hr := ratioN_bounds (a := o.Num) (b := o.Den) (n := 50) ⟨by omega, by omega⟩ ⟨by omega, by omega⟩
      have ht := timesN_bounds (p := w.rate) (q := ratioN o.Num o.Den) (a := 50 ^ w.list.length) (b := 50) h1 h2 ⟨hr.1, hr.2.1⟩ ⟨hr.2.2.1, hr.2.2.2⟩
      refine walkOn_facts n offers ho frm length rounds k _ _ ?_ ?_ x hx
      · simp only [List.length_append, List.length_cons, List.length_nil, Int.pow_succ, Nat.zero_add]
        exact ⟨ht.1, ht.2.1⟩
      · simp only [List.length_append, List.length_cons, List.length_nil, Int.pow_succ, Nat.zero_add]
        exact ⟨ht.2.2.1, ht.2.2.2⟩

theorem walksL_facts (m : Market) (ho : ∀ o ∈ m.offers, goodOffer m.n o = true) (frm length : Int) (rounds : Bool) : ∀ x ∈ walksL m frm length rounds, (x.list.length : Int) = length ∧ (1 ≤ x.rate.Num ∧ x.rate.Num ≤ 50 ^ x.list.length) ∧ (1 ≤ x.rate.Den ∧ x.rate.Den ≤ 50 ^ x.list.length) :=
  walkOn_facts m.n m.offers ho frm length rounds _ _ _ (by simp) (by simp)

end Go.Pv

set_option linter.unusedSimpArgs false
set_option linter.unusedVariables false
namespace Go.Pv

def aboveS (a b : Ratio) : Bool := decide (b.Num * a.Den < a.Num * b.Den)

theorem above_eq {a b : Ratio} {x y : Int} (h1 : 0 ≤ a.Num ∧ a.Num ≤ x) (h2 : 0 ≤ a.Den ∧ a.Den ≤ x) (h3 : 0 ≤ b.Num ∧ b.Num ≤ y) (h4 : 0 ≤ b.Den ∧ b.Den ≤ y) (h : x * y ≤ 9223372036854775807) : m_rate_above a b = some (aboveS a b) := by
  have m1 := mul_bounds h1 h4
  have m2 := mul_bounds h2 h3
  rw [Int.mul_comm a.Den b.Num] at m2
  rw [m_rate_above, wrap_i64_eq (by omega), wrap_i64_eq (by omega)]
  rfl

/-- A market whose offers are good. -/
structure MarketOk (m : Market) : Prop where
  n1 : 2 ≤ m.n
  n2 : m.n ≤ 6
  len : m.offers.length ≤ 40
  good : ∀ o ∈ m.offers, offerOk m.n o = true

theorem MarketOk.of {n : Int} {l : List Offer} (h : ofCode n l = 0) : MarketOk ⟨n, l⟩ :=
  ⟨(ofCode_zero h).1, (ofCode_zero h).2.1, (ofCode_zero h).2.2.1, (ofCode_zero h).2.2.2⟩

theorem MarketOk.offer {m : Market} (h : MarketOk m) : ∀ o ∈ m.offers, goodOffer m.n o = true := fun o ho => by
  have := h.good o ho
  simp only [offerOk, Bool.and_eq_true] at this
  exact this.1

theorem MarketOk.pre {m : Market} (h : MarketOk m) {frm length : Int} (h1 : 0 ≤ frm ∧ frm < m.n) (h2 : 0 ≤ length ∧ length ≤ m.n) (r : Bool) : walksPre m frm length r = true := by
  have := h.n2
  have h3 := h.len
  simp only [walksPre, Bool.and_eq_true, decide_eq_true_eq, List.all_eq_true]
  exact ⟨⟨h.n2, by omega, h1.1, h1.2, h2.1, by omega⟩, h.offer⟩

theorem MarketOk.facts {m : Market} (h : MarketOk m) (frm length : Int) (r : Bool) (h2 : 0 ≤ length ∧ length ≤ m.n) : ∀ x ∈ walksL m frm length r, (x.list.length : Int) = length ∧ (1 ≤ x.rate.Num ∧ x.rate.Num ≤ 15625000000) ∧ (1 ≤ x.rate.Den ∧ x.rate.Den ≤ 15625000000) := by
  intro x hx
  obtain ⟨a1, a2, a3⟩ := walksL_facts m h.offer frm length r x hx
  have := h.n2
  have hp := pow50_le (a := x.list.length) (b := 6) (by omega)
  have e : (50 : Int) ^ 6 = 15625000000 := by decide
  refine ⟨a1, ⟨a2.1, by omega⟩, a3.1, by omega⟩

theorem MarketOk.facts5 {m : Market} (h : MarketOk m) (frm length : Int) (r : Bool) (h2 : 0 ≤ length ∧ length < m.n) : ∀ x ∈ walksL m frm length r, (x.list.length : Int) = length ∧ (1 ≤ x.rate.Num ∧ x.rate.Num ≤ 312500000) ∧ (1 ≤ x.rate.Den ∧ x.rate.Den ≤ 312500000) := by
  intro x hx
  obtain ⟨a1, a2, a3⟩ := walksL_facts m h.offer frm length r x hx
  have := h.n2
  have hp := pow50_le (a := x.list.length) (b := 5) (by omega)
  have e : (50 : Int) ^ 5 = 312500000 := by decide
  refine ⟨a1, ⟨a2.1, by omega⟩, a3.1, by omega⟩

/-! ## Rounds -/

def gainsW (x : Walk) : Bool := aboveS x.rate ⟨1, 1⟩
def lesser (a c : List Int) : List Int := if c.isEmpty || decide (cmpL a c < 0) then a else c
def roundV (c : List Int) : List Walk → List Int
  | [] => c
  | x :: W => if gainsW x then lesser x.list c else roundV c W

theorem roundV_len {c : List Int} (hc : c.length ≤ 1000) : ∀ {W : List Walk}, (∀ x ∈ W, x.list.length ≤ 1000) → (roundV c W).length ≤ 1000
  | [], _ => hc
  | x :: W, h => by
    unfold roundV
    split
    · unfold lesser; split
      · exact h x (by simp)
      · exact hc
    · exact roundV_len hc fun y hy => h y (List.mem_cons_of_mem _ hy)

theorem rangeM_round (c : List Int) (hc : c.length ≤ 1000) : ∀ (W : List Walk), (∀ x ∈ W, x.list.length ≤ 1000 ∧ (1 ≤ x.rate.Num ∧ x.rate.Num ≤ 15625000000) ∧ (1 ≤ x.rate.Den ∧ x.rate.Den ≤ 15625000000)) →
    ((rangeM m_rate_market_round_r3 c W).bind fun o => match o with | .inl c4 => some c4 | .inr c41 => some c41) = some (roundV c W)
  | [], _ => rfl
  | x :: W, h => by
    obtain ⟨h1, h2, h3⟩ := h x (by simp)
    have ha : m_rate_above x.rate ⟨1, 1⟩ = some (gainsW x) := above_eq (x := 15625000000) (y := 1) ⟨by omega, by omega⟩ ⟨by omega, by omega⟩ (by simp) (by simp) (by omega)
    have ih := rangeM_round c hc W fun y hy => h y (List.mem_cons_of_mem _ hy)
    unfold roundV
    rw [rangeM, m_rate_market_round_r3, ha]
    simp only [Option.bind_some]
    rcases Bool.eq_false_or_eq_true (gainsW x) with hg | hg
    · rw [hg, Compare_eq _ _ (by omega) (by omega)]
      simp only [cond_true, if_true, Option.bind_some, lesser]
      rcases Bool.eq_false_or_eq_true c.isEmpty with he | he
      · simp [he]
      · by_cases hl : cmpL x.list c < 0
        · simp [he, hl]
        · simp [he, hl]
    · rw [hg]
      simp only [cond_false, Option.bind_some, Bool.false_eq_true, if_false]
      exact ih

def roundLen (m : Market) (length : Int) : List Int := foldUp (fun v c => roundV c (walksL m v length true)) m.n.toNat 0 []

theorem round_l2 {m : Market} (h : MarketOk m) {length : Int} (hl : 0 ≤ length ∧ length ≤ m.n) : iter (m_rate_market_round_l2 m length) (0, []) = some (roundLen m length) ∧ (roundLen m length).length ≤ 1000 := by
  have hn2 := h.n2
  have key := iter_fold (f := m_rate_market_round_l2 m length) (n := m.n) (e := id) (i := 0) (s := [])
    (g := fun v c => guardO (walksPre m v length true = true) <| (rangeM (m_rate_market_round_r3) c (walksL m v length true)).bind fun o => match o with | .inl c4 => some c4 | .inr c41 => some c41)
    (h := fun v c => roundV c (walksL m v length true)) (fun _ c => c.length ≤ 1000) (by omega) (fun i s => by rw [m_rate_market_round_l2]; rfl) (by omega) ?_ (by simp)
  · have e : m.n - 0 = m.n := by omega
    rw [e] at key
    exact key
  · intro j s h1 h2 h3
    have hf := h.facts j length true hl
    have hle : ∀ x ∈ walksL m j length true, x.list.length ≤ 1000 := fun x hx => by
      have := (hf x hx).1
      omega
    rw [guardO_pos (h.pre ⟨h1, h2⟩ hl true), rangeM_round s h3 _ fun x hx => ⟨hle x hx, (hf x hx).2⟩]
    exact ⟨rfl, roundV_len h3 hle⟩

def roundFrom (m : Market) : Nat → Int → List Int
  | 0, _ => []
  | k + 1, length => if (roundLen m length).isEmpty then roundFrom m k (length + 1) else roundLen m length

def roundS (m : Market) : List Int := roundFrom m (m.n - 1).toNat 2

theorem round_l1 {m : Market} (h : MarketOk m) : ∀ (k : Nat) (length : Int), k = (m.n + 1 - length).toNat → 0 ≤ length →
    ((iter (m_rate_market_round_l1 m) length).bind fun o => match o with | .inl _ => some [] | .inr y => some y) = some (roundFrom m k length)
  | 0, length, hk, h0 => by
    have d : decide (length ≤ m.n) = false := by simp; omega
    rw [iter_eq, m_rate_market_round_l1, d]; rfl
  | k + 1, length, hk, h0 => by
    have hn2 := h.n2
    have d : decide (length ≤ m.n) = true := by simp; omega
    have ih := round_l1 h k (length + 1) (by omega) (by omega)
    rw [iter_eq, m_rate_market_round_l1, d, (round_l2 h ⟨h0, by omega⟩).1, roundFrom]
    simp only [cond_true, Option.bind_some]
    rcases Bool.eq_false_or_eq_true (roundLen m length).isEmpty with he | he
    · simp only [he, Bool.not_true, cond_false, Option.bind_some, if_true]
      rw [wrap_i64_eq (by omega)]
      exact ih
    · simp only [he, Bool.not_false, cond_true, Option.bind_some, Bool.false_eq_true, if_false]

theorem round_eq {m : Market} (h : MarketOk m) : m_rate_market_round m = some (roundS m) := by
  have hn2 := h.n2
  have := round_l1 h _ 2 rfl (by omega)
  rw [m_rate_market_round]
  have e : (m.n + 1 - 2).toNat = (m.n - 1).toNat := by omega
  rw [e] at this
  obtain ⟨x, h1, h2⟩ := bind_some this
  rw [h1]
  rcases x with x | x <;> exact h2

/-! ## The best -/

def bestStep (to : Int) (s : Walk × Bool) (x : Walk) : Walk × Bool := if (decide (x.to = to) && (!s.2 || aboveS x.rate s.1.rate)) = true then (x, true) else s
def bestS (m : Market) (frm to : Int) : Walk × Bool :=
  if frm = to then (⟨[], ⟨1, 1⟩, 0⟩, true) else foldUp (fun length s => (walksL m frm length false).foldl (bestStep to) s) (m.n - 1).toNat 1 (⟨[], ⟨0, 0⟩, 0⟩, false)

def RateOk (r : Ratio) : Prop := (0 ≤ r.Num ∧ r.Num ≤ 312500000) ∧ 0 ≤ r.Den ∧ r.Den ≤ 312500000

theorem RateOk.mk1 {a b : Int} (h : (0 ≤ a ∧ a ≤ 312500000) ∧ 0 ≤ b ∧ b ≤ 312500000) : RateOk ⟨a, b⟩ := h

theorem above_ok {a b : Ratio} (h1 : RateOk a) (h2 : RateOk b) : m_rate_above a b = some (aboveS a b) :=
  above_eq (x := 312500000) (y := 312500000) h1.1 h1.2 h2.1 h2.2 (by omega)

theorem rangeM_best (to : Int) : ∀ (W : List Walk) (s : Walk × Bool), RateOk s.1.rate → (∀ x ∈ W, RateOk x.rate) →
    rangeM (m_rate_market_best_r2 to) s W = some (.inl (W.foldl (bestStep to) s)) ∧ RateOk (W.foldl (bestStep to) s).1.rate
  | [], s, hs, _ => ⟨rfl, hs⟩
  | x :: W, s, hs, h => by
    have hx := h x (by simp)
    have e : m_rate_market_best_r2 to s x = some (.inl (bestStep to s x)) := by
      obtain ⟨s1, s2⟩ := s
      rw [m_rate_market_best_r2, above_ok hx hs]
      simp only [bestStep, Option.bind_some]
      rcases Bool.eq_false_or_eq_true (decide (x.to = to)) with c1 | c1
      · rcases Bool.eq_false_or_eq_true s2 with c2 | c2
        · rcases Bool.eq_false_or_eq_true (aboveS x.rate s1.rate) with c3 | c3
          · simp [c1, c2, c3]
          · simp [c1, c2, c3]
        · simp [c1, c2]
      · simp [c1]
    have hr : RateOk (bestStep to s x).1.rate := by
      unfold bestStep; split
      · exact hx
      · exact hs
    rw [rangeM, e]
    exact rangeM_best to W _ hr fun y hy => h y (List.mem_cons_of_mem _ hy)

theorem best_eq {m : Market} (h : MarketOk m) {frm : Int} (hf : 0 ≤ frm ∧ frm < m.n) (to : Int) : m_rate_market_best m frm to = some (bestS m frm to) ∧ RateOk (bestS m frm to).1.rate := by
  have hn2 := h.n2
  rw [m_rate_market_best, bestS]
  by_cases he : frm = to
  · have d : decide (frm = to) = true := by simpa using he
    rw [d, if_pos he]
    exact ⟨rfl, RateOk.mk1 (by decide)⟩
  have d : decide (frm = to) = false := by simpa using he
  rw [d, if_neg he]
  have key := iter_fold (f := fun x : Int × (Walk × Bool) => m_rate_market_best_l1 m frm to x) (n := m.n) (e := id) (i := 1) (s := (⟨[], ⟨0, 0⟩, 0⟩, false))
    (g := fun length s => (guardO (walksPre m frm length false = true) <| (rangeM (m_rate_market_best_r2 to) s (walksL m frm length false)).bind fun o => match o with | .inl (c7, c8) => some (c7, c8) | .inr (c71, c81) => none))
    (h := fun length s => (walksL m frm length false).foldl (bestStep to) s) (fun _ s => RateOk s.1.rate) (by omega) ?_ (by omega) ?_ (RateOk.mk1 (by decide))
  · simp only [cond_false, key.1, Option.bind_some]
    exact ⟨rfl, key.2⟩
  · rintro i ⟨s1, s2⟩
    rw [m_rate_market_best_l1]
    rfl
  · intro j s h1 h2 h3
    have hfa := h.facts5 frm j false ⟨by omega, h2⟩
    obtain ⟨b1, b2⟩ := rangeM_best to (walksL m frm j false) s h3 fun x hx => by
      have := hfa x hx
      exact ⟨⟨by omega, by omega⟩, by omega, by omega⟩
    rw [guardO_pos (h.pre hf ⟨by omega, by omega⟩ false), b1]
    exact ⟨rfl, b2⟩

/-! ## Prices -/

def priceStep (m : Market) (v v2 : Int) (c : Ratio) : Ratio := if ((bestS m v v2).2 && aboveS (bestS m v v2).1.rate c) = true then (bestS m v v2).1.rate else c
def priceS (m : Market) (v : Int) : Ratio := foldUp (priceStep m v) m.n.toNat 0 ⟨1, 1⟩
def pricesS (m : Market) : List Ratio := foldUp (fun v L => L ++ [priceS m v]) m.n.toNat 0 []

theorem Prices_l2 {n : Int} {l : List Offer} {c : Int} (h : MarketOk ⟨n, l⟩) {v : Int} (hv : 0 ≤ v ∧ v < n) : iter (m_rate_Prices_l2 n (⟨n, l⟩, c) v) (0, ⟨1, 1⟩) = some (priceS ⟨n, l⟩ v) := by
  have hn2 := h.n2
  dsimp only at hn2
  have key := iter_fold (f := m_rate_Prices_l2 n (⟨n, l⟩, c) v) (n := n) (e := id) (i := 0) (s := (⟨1, 1⟩ : Ratio))
    (g := fun v2 c2 => ((m_rate_market_best ⟨n, l⟩ v v2).bind fun r3 => ((cond r3.2 ((m_rate_above r3.1.rate c2).bind fun r4 => some r4) (some false)) : Option Bool).bind fun b1 => cond b1 (some r3.1.rate) (some c2)))
    (h := priceStep ⟨n, l⟩ v) (fun _ s => RateOk s) (by omega) (fun i s => by rw [m_rate_Prices_l2]; rfl) (by omega) ?_ (RateOk.mk1 (by decide))
  · have e : n - 0 = n := by omega
    rw [e] at key
    exact key.1
  · intro j s h1 h2 h3
    obtain ⟨b1, b2⟩ := best_eq h (frm := v) hv j
    rw [b1]
    simp only [Option.bind_some, above_ok b2 h3, priceStep]
    rcases Bool.eq_false_or_eq_true (bestS ⟨n, l⟩ v j).2 with c1 | c1
    · rcases Bool.eq_false_or_eq_true (aboveS (bestS ⟨n, l⟩ v j).1.rate s) with c2 | c2
      · simp [c1, c2, b2]
      · simp [c1, c2, h3]
    · simp [c1, h3]

theorem Prices_l1 {n : Int} {l : List Offer} {c : Int} (h : MarketOk ⟨n, l⟩) : iter (m_rate_Prices_l1 n (⟨n, l⟩, c)) (0, []) = some (pricesS ⟨n, l⟩) := by
  have hn2 := h.n2
  dsimp only at hn2
  have key := iter_fold (f := m_rate_Prices_l1 n (⟨n, l⟩, c)) (n := n) (e := id) (i := 0) (s := ([] : List Ratio))
    (g := fun v1 L2 => ((iter (m_rate_Prices_l2 n (⟨n, l⟩, c) v1) (0, (⟨1, 1⟩ : Ratio))).bind fun x_37 => some x_37 : Option Ratio).bind fun c1 => guardO (L2.length + [c1].length ≤ 4294967296) <| some (L2 ++ [c1]))
    (h := fun v L => L ++ [priceS ⟨n, l⟩ v]) (fun j L => (L.length : Int) = j) (by omega) (fun i s => by rw [m_rate_Prices_l1]; rfl) (by omega) ?_ (by simp)
  · have e : n - 0 = n := by omega
    rw [e] at key
    exact key.1
  · intro j s h1 h2 h3
    rw [Prices_l2 h ⟨h1, h2⟩]
    simp only [Option.bind_some]
    rw [guardO_pos (by simp; omega)]
    exact ⟨rfl, by simp; omega⟩

/-! ## The exported functions -/

theorem Prices_eq (n : Int) (l : List Offer) : m_rate_Prices n l = some (if ofCode n l = 0 then (if (roundS ⟨n, l⟩).isEmpty then (pricesS ⟨n, l⟩, 0) else ([], 10)) else ([], ofCode n l)) := by
  rw [m_rate_Prices, of_eq]
  by_cases h0 : ofCode n l = 0
  · have hm := MarketOk.of h0
    rw [if_pos h0, if_pos h0]
    simp only [Option.bind_some, not_true_eq_false, decide_false, cond_false, round_eq hm, Prices_l1 hm]
    rcases Bool.eq_false_or_eq_true (roundS ⟨n, l⟩).isEmpty with he | he
    · simp [he]
    · simp [he]
  · have d : decide (¬ofCode n l = 0) = true := by simpa using h0
    rw [if_neg h0, if_neg h0]
    simp only [Option.bind_some, d, cond_true]

theorem Round_eq (n : Int) (l : List Offer) : m_rate_Round n l = some (if ofCode n l = 0 then (if (roundS ⟨n, l⟩).isEmpty then ([], 10) else (roundS ⟨n, l⟩, 0)) else ([], ofCode n l)) := by
  rw [m_rate_Round, of_eq]
  by_cases h0 : ofCode n l = 0
  · have hm := MarketOk.of h0
    rw [if_pos h0, if_pos h0]
    simp only [Option.bind_some, not_true_eq_false, decide_false, cond_false, round_eq hm]
    rcases Bool.eq_false_or_eq_true (roundS ⟨n, l⟩).isEmpty with he | he
    · simp [he]
    · simp [he]
  · have d : decide (¬ofCode n l = 0) = true := by simpa using h0
    rw [if_neg h0, if_neg h0]
    simp only [Option.bind_some, d, cond_true]

theorem Best_eq (n : Int) (l : List Offer) (frm to : Int) : m_rate_Best n l frm to = some (if ofCode n l = 0 then (if 0 ≤ frm ∧ frm < n ∧ 0 ≤ to ∧ to < n then (if (roundS ⟨n, l⟩).isEmpty then (if (bestS ⟨n, l⟩ frm to).2 then ((bestS ⟨n, l⟩ frm to).1.rate, (bestS ⟨n, l⟩ frm to).1.list, 0) else (⟨0, 0⟩, [], 10)) else (⟨0, 0⟩, [], 11)) else (⟨0, 0⟩, [], 2)) else (⟨0, 0⟩, [], ofCode n l)) := by
  rw [m_rate_Best, of_eq]
  by_cases h0 : ofCode n l = 0
  · have hm := MarketOk.of h0
    rw [if_pos h0, if_pos h0]
    simp only [Option.bind_some, not_true_eq_false, decide_false, cond_false, m_rate_market_has]
    by_cases hc : 0 ≤ frm ∧ frm < n ∧ 0 ≤ to ∧ to < n
    · have d1 : decide (0 ≤ frm) = true := by simp; omega
      have d2 : decide (frm < n) = true := by simp; omega
      have d3 : decide (0 ≤ to) = true := by simp; omega
      have d4 : decide (to < n) = true := by simp; omega
      rw [if_pos hc]
      simp only [d1, d2, d3, d4, Bool.and_true, Bool.not_true, cond_false, Option.bind_some, round_eq hm, (best_eq hm (frm := frm) ⟨hc.1, hc.2.1⟩ to).1]
      rcases Bool.eq_false_or_eq_true (roundS ⟨n, l⟩).isEmpty with he | he
      · simp only [he, Bool.not_true, cond_false, Option.bind_some, if_true]
        rcases Bool.eq_false_or_eq_true (bestS ⟨n, l⟩ frm to).2 with hb | hb
        · simp [hb]
        · simp [hb]
      · simp [he]
    · rw [if_neg hc]
      rcases Bool.eq_false_or_eq_true (decide (0 ≤ frm) && decide (frm < n)) with b1 | b1
      · have b2 : (decide (0 ≤ to) && decide (to < n)) = false := by
          simp only [Bool.and_eq_true, Bool.and_eq_false_iff, decide_eq_true_eq, decide_eq_false_iff_not] at *
          omega
        simp only [b1, b2, Bool.not_true, Bool.not_false, cond_true, cond_false, Option.bind_some]
      · simp only [b1, Bool.not_false, cond_true, Option.bind_some]
  · have d : decide (¬ofCode n l = 0) = true := by simpa using h0
    rw [if_neg h0, if_neg h0]
    simp only [Option.bind_some, d, cond_true]

/-! ## The laws' ring -/

theorem alive_true : m_cocketlaw01_alive = some true := by
  have e1 : m_rate_Prices 3 [⟨0, 1, 2, 1⟩, ⟨1, 2, 3, 2⟩, ⟨2, 0, 1, 3⟩] = some ([⟨3, 1⟩, ⟨3, 2⟩, ⟨1, 1⟩], 0) := by
    rw [Prices_eq]; decide +kernel
  have e2 : m_rate_Best 3 [⟨0, 1, 2, 1⟩, ⟨1, 2, 3, 2⟩, ⟨2, 0, 1, 3⟩] 0 2 = some (⟨3, 1⟩, [0, 1], 0) := by
    rw [Best_eq]; decide +kernel
  have e3 : m_rate_Round 3 [⟨0, 1, 2, 1⟩, ⟨1, 2, 3, 2⟩, ⟨2, 0, 1, 2⟩] = some ([0, 1, 2], 0) := by
    rw [Round_eq]; decide +kernel
  rw [m_cocketlaw01_alive, m_cocketlaw01_ring]
  simp only [Option.bind_some, e1, e2]
  have e4 : idx ([⟨0, 1, 2, 1⟩, ⟨1, 2, 3, 2⟩, ⟨2, 0, 1, 3⟩] : List Offer) 2 = some ⟨2, 0, 1, 3⟩ := rfl
  rw [e4]
  simp only [Option.bind_some, List.set]
  rw [e3]
  simp only [Option.bind_some]
  have e5 : idx ([⟨3, 1⟩, ⟨3, 2⟩, ⟨1, 1⟩] : List Ratio) 1 = some ⟨3, 2⟩ := rfl
  rw [e5, same_eq _ _ (by decide)]
  rfl

theorem RateChanges_law (n : Int) (l : List Offer) (w : List Int) (a : Int) : m_cocketlaw01_RateChanges n l w a = some true := RateChanges_true alive_true n l w a

end Go.Pv

namespace Go.Pv.Tryd
open Go.Proofs Go.Pv

theorem m_cocketlaw01_few_ok (l1 : (List Offer)) (r : Bool) (h : m_cocketlaw01_few l1 = some r) : PureFn Tryd.prog G 17 [.d (.imm 4 (lenc Offer.pd l1))] (.d (.bool r)) := by
  unfold m_cocketlaw01_few at h
  refine PureFn.intro2 Tryd.func17 (by rfl) (by rw [Tryd.ntmps17]; simp) ?_
  rw [Tryd.ntmps17]
  simp only [argEnv, reduceCtorEq, ↓reduceIte, Nat.reduceAdd, Nat.reduceMul, Nat.reduceLT, Nat.reduceLeDiff, Nat.reduceEqDiff, Nat.reduceBEq, Int.reduceToNat]
  refine AWp.seq fun K_1 hK_1 => AWp.reg ?_
  iterate 1 (refine AOps.consU fun K' hK' => ?_; simp (disch := omega) only [go_sem, reduceCtorEq, ↓reduceIte, Nat.reduceAdd, Nat.reduceMul, Nat.reduceLT, Nat.reduceLeDiff, Nat.reduceEqDiff, Nat.reduceBEq, Int.reduceToNat]; refine hK' _ ?_; clear hK' K')
  refine AOps.nil ?_
  simp only [Post.then]
  refine hK_1 _ ?_
  clear hK_1 K_1
  refine AWp.seq fun K_2 hK_2 => AWp.reg ?_
  iterate 4 (refine AOps.consU fun K' hK' => ?_; simp (disch := omega) only [go_sem, reduceCtorEq, ↓reduceIte, Nat.reduceAdd, Nat.reduceMul, Nat.reduceLT, Nat.reduceLeDiff, Nat.reduceEqDiff, Nat.reduceBEq, Int.reduceToNat]; refine hK' _ ?_; clear hK' K')
  refine AOps.nil ?_
  simp only [Post.then]
  refine hK_2 _ ?_
  clear hK_2 K_2
  refine AWp.ret ?_
  simp only [Post.then, Post.inBlock, Go.Pv.Fin, Go.Pv.FinG]
  rw [← Option.some.inj h]
  refine ⟨.d (.bool (decide ((l1.length : Int) ≤ 60))), ?_, (by first | exact True.intro | rfl), .d (.bool (decide ((l1.length : Int) ≤ 60))), ?_, ?_⟩
  · simp only [go_sem, Tryd.results17, List.length_append, List.length_set, List.length_replicate, reduceCtorEq, ↓reduceIte, Nat.reduceAdd, Nat.reduceMul, Nat.reduceLT, Nat.reduceLeDiff, Nat.reduceEqDiff, Nat.reduceBEq, Int.reduceToNat]
  · simp only [go_sem, lenc_nil, List.take_length, List.length_append, List.length_set, List.length_replicate, reduceCtorEq, ↓reduceIte, Nat.reduceAdd, Nat.reduceMul, Nat.reduceLT, Nat.reduceLeDiff, Nat.reduceEqDiff, Nat.reduceBEq, Int.reduceToNat]
  · (first | exact leV_refl _ | (simp only [go_sem, leV, leVL, leD, leDL, lenc_nil, leD_refl, leDL_refl, lstD_le, reduceCtorEq, ↓reduceIte, Nat.reduceAdd, Nat.reduceMul, Nat.reduceLT, Nat.reduceLeDiff, Nat.reduceEqDiff, Nat.reduceBEq, Int.reduceToNat]; done))

end Go.Pv.Tryd

namespace Go.Pv.Tryd
open Go.Proofs Go.Pv

theorem m_cocketlaw01_ring_ok (r : (List Offer)) (h : m_cocketlaw01_ring = some r) : RowFn Tryd.prog G 48 [] 43 4 (lenc Offer.pd r) := by
  unfold m_cocketlaw01_ring at h
  refine Fn.intro Tryd.func48 (by rfl) (by rw [Tryd.ntmps48]; simp) ?_
  rw [Tryd.ntmps48]
  simp only [argEnv, reduceCtorEq, ↓reduceIte, Nat.reduceAdd, Nat.reduceMul, Nat.reduceLT, Nat.reduceLeDiff, Nat.reduceEqDiff, Nat.reduceBEq, Int.reduceToNat]
  refine AWp.seq fun K_1 hK_1 => AWp.reg ?_
  iterate 1 (refine AOps.consU fun K' hK' => ?_; simp (disch := omega) only [go_sem, reduceCtorEq, ↓reduceIte, Nat.reduceAdd, Nat.reduceMul, Nat.reduceLT, Nat.reduceLeDiff, Nat.reduceEqDiff, Nat.reduceBEq, Int.reduceToNat]; refine hK' _ ?_; clear hK' K')
  refine AOps.nil ?_
  simp only [Post.then]
  refine hK_1 _ ?_
  clear hK_1 K_1
  refine AWp.seq fun K_2 hK_2 => AWp.reg ?_
  iterate 5 (refine AOps.consU fun K' hK' => ?_; simp (disch := omega) only [go_sem, reduceCtorEq, ↓reduceIte, Nat.reduceAdd, Nat.reduceMul, Nat.reduceLT, Nat.reduceLeDiff, Nat.reduceEqDiff, Nat.reduceBEq, Int.reduceToNat]; refine hK' _ ?_; clear hK' K')
  refine AOps.nil ?_
  simp only [Post.then]
  refine hK_2 _ ?_
  clear hK_2 K_2
  refine AWp.ret ?_
  simp only [Post.then, Post.inBlock, Go.Pv.Fin, Go.Pv.FinG]
  rw [← Option.some.inj h]
  refine ⟨.slc 1000 0 3, ?_, (by first | exact True.intro | rfl), ?_, ?_⟩
  · simp only [go_sem, Tryd.results48, reduceCtorEq, ↓reduceIte, Nat.reduceAdd, Nat.reduceMul, Nat.reduceLT, Nat.reduceLeDiff, Nat.reduceEqDiff, Nat.reduceBEq, Int.reduceToNat]
  · rw [lenc_length]; rfl
  · first | rfl | (simp only [go_sem, lenc_nil, lenc_cons, reduceCtorEq, ↓reduceIte, Nat.reduceAdd, Nat.reduceMul, Nat.reduceLT, Nat.reduceLeDiff, Nat.reduceEqDiff, Nat.reduceBEq, Int.reduceToNat]; done)

end Go.Pv.Tryd

namespace Go.Pv.Tryd
open Go.Proofs Go.Pv

theorem m_rate_of_1_ok (v1 : Int) (r : Bool) (h : m_rate_of_1 v1 = some r) : PureFn Tryd.prog G 79 [.d (.int .i64 v1)] (.d (.bool r)) := by
  unfold m_rate_of_1 at h
  refine PureFn.intro2 Tryd.func79 (by rfl) (by rw [Tryd.ntmps79]; simp) ?_
  rw [Tryd.ntmps79]
  simp only [argEnv, reduceCtorEq, ↓reduceIte, Nat.reduceAdd, Nat.reduceMul, Nat.reduceLT, Nat.reduceLeDiff, Nat.reduceEqDiff, Nat.reduceBEq, Int.reduceToNat]
  refine AWp.seq fun K_1 hK_1 => AWp.reg ?_
  iterate 1 (refine AOps.consU fun K' hK' => ?_; simp (disch := omega) only [go_sem, reduceCtorEq, ↓reduceIte, Nat.reduceAdd, Nat.reduceMul, Nat.reduceLT, Nat.reduceLeDiff, Nat.reduceEqDiff, Nat.reduceBEq, Int.reduceToNat]; refine hK' _ ?_; clear hK' K')
  refine AOps.nil ?_
  simp only [Post.then]
  refine hK_1 _ ?_
  clear hK_1 K_1
  refine AWp.seq fun K_2 hK_2 => AWp.reg ?_
  iterate 3 (refine AOps.consU fun K' hK' => ?_; simp (disch := omega) only [go_sem, reduceCtorEq, ↓reduceIte, Nat.reduceAdd, Nat.reduceMul, Nat.reduceLT, Nat.reduceLeDiff, Nat.reduceEqDiff, Nat.reduceBEq, Int.reduceToNat]; refine hK' _ ?_; clear hK' K')
  refine AOps.cut 3 (⟨[(2, .d (.bool false)), (8, .d (.bool ((decide (1 ≤ v1)) && (decide (v1 ≤ 50)))))], [], [], none⟩) ?_ ?_
  · simp only [List.take_succ_cons, List.take_zero]
    rcases Bool.eq_false_or_eq_true (decide (1 ≤ v1)) with hg_4 | hg_4
    · rw [hg_4]
      iterate 3 (refine AOps.consU fun K' hK' => ?_; simp (disch := omega) only [go_sem, reduceCtorEq, ↓reduceIte, Nat.reduceAdd, Nat.reduceMul, Nat.reduceLT, Nat.reduceLeDiff, Nat.reduceEqDiff, Nat.reduceBEq, Int.reduceToNat]; refine hK' _ ?_; clear hK' K')
      refine AOps.nil ?_
      exact (Sub.mk ⟨rfl, rfl, trivial⟩ trivial ⟨trivial, trivial, trivial⟩ trivial ⟨rfl, trivial, rfl⟩)
    · rw [hg_4]
      iterate 3 (refine AOps.consU fun K' hK' => ?_; simp (disch := omega) only [go_sem, reduceCtorEq, ↓reduceIte, Nat.reduceAdd, Nat.reduceMul, Nat.reduceLT, Nat.reduceLeDiff, Nat.reduceEqDiff, Nat.reduceBEq, Int.reduceToNat]; refine hK' _ ?_; clear hK' K')
      refine AOps.nil ?_
      exact (Sub.mk ⟨rfl, rfl, trivial⟩ trivial ⟨trivial, trivial, trivial⟩ trivial ⟨rfl, trivial, rfl⟩)
  simp only [List.drop_succ_cons, List.drop_zero]
  iterate 1 (refine AOps.consU fun K' hK' => ?_; simp (disch := omega) only [go_sem, reduceCtorEq, ↓reduceIte, Nat.reduceAdd, Nat.reduceMul, Nat.reduceLT, Nat.reduceLeDiff, Nat.reduceEqDiff, Nat.reduceBEq, Int.reduceToNat]; refine hK' _ ?_; clear hK' K')
  refine AOps.nil ?_
  simp only [Post.then]
  refine hK_2 _ ?_
  clear hK_2 K_2
  refine AWp.ret ?_
  simp only [Post.then, Post.inBlock, Go.Pv.Fin, Go.Pv.FinG]
  rw [← Option.some.inj h]
  refine ⟨.d (.bool ((decide (1 ≤ v1)) && (decide (v1 ≤ 50)))), ?_, (by first | exact True.intro | rfl), .d (.bool ((decide (1 ≤ v1)) && (decide (v1 ≤ 50)))), ?_, ?_⟩
  · simp only [go_sem, Tryd.results79, List.length_append, List.length_set, List.length_replicate, reduceCtorEq, ↓reduceIte, Nat.reduceAdd, Nat.reduceMul, Nat.reduceLT, Nat.reduceLeDiff, Nat.reduceEqDiff, Nat.reduceBEq, Int.reduceToNat]
  · simp only [go_sem, lenc_nil, List.take_length, List.length_append, List.length_set, List.length_replicate, reduceCtorEq, ↓reduceIte, Nat.reduceAdd, Nat.reduceMul, Nat.reduceLT, Nat.reduceLeDiff, Nat.reduceEqDiff, Nat.reduceBEq, Int.reduceToNat]
  · (first | exact leV_refl _ | (simp only [go_sem, leV, leVL, leD, leDL, lenc_nil, leD_refl, leDL_refl, lstD_le, reduceCtorEq, ↓reduceIte, Nat.reduceAdd, Nat.reduceMul, Nat.reduceLT, Nat.reduceLeDiff, Nat.reduceEqDiff, Nat.reduceBEq, Int.reduceToNat]; done))

end Go.Pv.Tryd

namespace Go.Pv.Tryd
open Go.Proofs Go.Pv

theorem m_rate_market_has_ok (m1 : Market) (c1 : Int) (r : Bool) (h : m_rate_market_has m1 c1 = some r) : PureFn Tryd.prog G 53 [.d (.agg [(.int .i64 m1.n), (.imm 4 (lenc Offer.pd m1.offers))]), .d (.int .i64 c1)] (.d (.bool r)) := by
  unfold m_rate_market_has at h
  refine PureFn.intro2 Tryd.func53 (by rfl) (by rw [Tryd.ntmps53]; simp) ?_
  rw [Tryd.ntmps53]
  simp only [argEnv, reduceCtorEq, ↓reduceIte, Nat.reduceAdd, Nat.reduceMul, Nat.reduceLT, Nat.reduceLeDiff, Nat.reduceEqDiff, Nat.reduceBEq, Int.reduceToNat]
  refine AWp.seq fun K_1 hK_1 => AWp.reg ?_
  iterate 2 (refine AOps.consU fun K' hK' => ?_; simp (disch := omega) only [go_sem, reduceCtorEq, ↓reduceIte, Nat.reduceAdd, Nat.reduceMul, Nat.reduceLT, Nat.reduceLeDiff, Nat.reduceEqDiff, Nat.reduceBEq, Int.reduceToNat]; refine hK' _ ?_; clear hK' K')
  refine AOps.nil ?_
  simp only [Post.then]
  refine hK_1 _ ?_
  clear hK_1 K_1
  refine AWp.seq fun K_2 hK_2 => AWp.reg ?_
  iterate 3 (refine AOps.consU fun K' hK' => ?_; simp (disch := omega) only [go_sem, reduceCtorEq, ↓reduceIte, Nat.reduceAdd, Nat.reduceMul, Nat.reduceLT, Nat.reduceLeDiff, Nat.reduceEqDiff, Nat.reduceBEq, Int.reduceToNat]; refine hK' _ ?_; clear hK' K')
  refine AOps.cut 5 (⟨[(4, .d (.bool false)), (12, .d (.bool ((decide (0 ≤ c1)) && (decide (c1 < m1.n)))))], [], [], none⟩) ?_ ?_
  · simp only [List.take_succ_cons, List.take_zero]
    rcases Bool.eq_false_or_eq_true (decide (0 ≤ c1)) with hg_4 | hg_4
    · rw [hg_4]
      iterate 5 (refine AOps.consU fun K' hK' => ?_; simp (disch := omega) only [go_sem, reduceCtorEq, ↓reduceIte, Nat.reduceAdd, Nat.reduceMul, Nat.reduceLT, Nat.reduceLeDiff, Nat.reduceEqDiff, Nat.reduceBEq, Int.reduceToNat]; refine hK' _ ?_; clear hK' K')
      refine AOps.nil ?_
      exact (Sub.mk ⟨rfl, rfl, trivial⟩ trivial ⟨trivial, trivial, trivial⟩ trivial ⟨rfl, trivial, rfl⟩)
    · rw [hg_4]
      iterate 5 (refine AOps.consU fun K' hK' => ?_; simp (disch := omega) only [go_sem, reduceCtorEq, ↓reduceIte, Nat.reduceAdd, Nat.reduceMul, Nat.reduceLT, Nat.reduceLeDiff, Nat.reduceEqDiff, Nat.reduceBEq, Int.reduceToNat]; refine hK' _ ?_; clear hK' K')
      refine AOps.nil ?_
      exact (Sub.mk ⟨rfl, rfl, trivial⟩ trivial ⟨trivial, trivial, trivial⟩ trivial ⟨rfl, trivial, rfl⟩)
  simp only [List.drop_succ_cons, List.drop_zero]
  iterate 1 (refine AOps.consU fun K' hK' => ?_; simp (disch := omega) only [go_sem, reduceCtorEq, ↓reduceIte, Nat.reduceAdd, Nat.reduceMul, Nat.reduceLT, Nat.reduceLeDiff, Nat.reduceEqDiff, Nat.reduceBEq, Int.reduceToNat]; refine hK' _ ?_; clear hK' K')
  refine AOps.nil ?_
  simp only [Post.then]
  refine hK_2 _ ?_
  clear hK_2 K_2
  refine AWp.ret ?_
  simp only [Post.then, Post.inBlock, Go.Pv.Fin, Go.Pv.FinG]
  rw [← Option.some.inj h]
  refine ⟨.d (.bool ((decide (0 ≤ c1)) && (decide (c1 < m1.n)))), ?_, (by first | exact True.intro | rfl), .d (.bool ((decide (0 ≤ c1)) && (decide (c1 < m1.n)))), ?_, ?_⟩
  · simp only [go_sem, Tryd.results53, List.length_append, List.length_set, List.length_replicate, reduceCtorEq, ↓reduceIte, Nat.reduceAdd, Nat.reduceMul, Nat.reduceLT, Nat.reduceLeDiff, Nat.reduceEqDiff, Nat.reduceBEq, Int.reduceToNat]
  · simp only [go_sem, lenc_nil, List.take_length, List.length_append, List.length_set, List.length_replicate, reduceCtorEq, ↓reduceIte, Nat.reduceAdd, Nat.reduceMul, Nat.reduceLT, Nat.reduceLeDiff, Nat.reduceEqDiff, Nat.reduceBEq, Int.reduceToNat]
  · (first | exact leV_refl _ | (simp only [go_sem, leV, leVL, leD, leDL, lenc_nil, leD_refl, leDL_refl, lstD_le, reduceCtorEq, ↓reduceIte, Nat.reduceAdd, Nat.reduceMul, Nat.reduceLT, Nat.reduceLeDiff, Nat.reduceEqDiff, Nat.reduceBEq, Int.reduceToNat]; done))

end Go.Pv.Tryd

namespace Go.Pv.Tryd
open Go.Proofs Go.Pv

theorem m_rate_of_ok (n1 : Int) (offers1 : (List Offer)) (r : (Market × Int)) (h : m_rate_of n1 offers1 = some r) : PureFn Tryd.prog G 52 [.d (.int .i64 n1), .d (.imm 4 (lenc Offer.pd offers1))] (.tuple [.d (.agg [(.int .i64 r.1.n), (.imm 4 (lenc Offer.pd r.1.offers))]), .d (.int .i64 r.2)]) := by
  unfold m_rate_of at h
  refine PureFn.intro2 Tryd.func52 (by rfl) (by rw [Tryd.ntmps52]; simp) ?_
  rw [Tryd.ntmps52]
  simp only [argEnv, reduceCtorEq, ↓reduceIte, Nat.reduceAdd, Nat.reduceMul, Nat.reduceLT, Nat.reduceLeDiff, Nat.reduceEqDiff, Nat.reduceBEq, Int.reduceToNat]
  refine AWp.seq fun K_1 hK_1 => AWp.reg ?_
  iterate 2 (refine AOps.consU fun K' hK' => ?_; simp (disch := omega) only [go_sem, reduceCtorEq, ↓reduceIte, Nat.reduceAdd, Nat.reduceMul, Nat.reduceLT, Nat.reduceLeDiff, Nat.reduceEqDiff, Nat.reduceBEq, Int.reduceToNat]; refine hK' _ ?_; clear hK' K')
  refine AOps.nil ?_
  simp only [Post.then]
  refine hK_1 _ ?_
  clear hK_1 K_1
  refine AWp.seq fun K_2 hK_2 => ?_
  refine AWp.block ?_
  refine AWp.seq fun K_3 hK_3 => AWp.reg ?_
  iterate 3 (refine AOps.consU fun K' hK' => ?_; simp (disch := omega) only [go_sem, reduceCtorEq, ↓reduceIte, Nat.reduceAdd, Nat.reduceMul, Nat.reduceLT, Nat.reduceLeDiff, Nat.reduceEqDiff, Nat.reduceBEq, Int.reduceToNat]; refine hK' _ ?_; clear hK' K')
  refine AOps.cut 3 (⟨[(0, .d (.int .i64 n1)), (1, .d (.imm 4 (lenc Offer.pd offers1))), (4, .ptr 1000 0 0), (16, .d (.bool ((decide (n1 < 2)) || (decide (6 < n1)))))], [(1000, ⟨77, 2, [.d (.agg [(.int .i64 0), .nilslice])]⟩)], [], none⟩) ?_ ?_
  · simp only [List.take_succ_cons, List.take_zero]
    rcases Bool.eq_false_or_eq_true (decide (n1 < 2)) with hg_5 | hg_5
    · rw [hg_5]
      iterate 3 (refine AOps.consU fun K' hK' => ?_; simp (disch := omega) only [go_sem, reduceCtorEq, ↓reduceIte, Nat.reduceAdd, Nat.reduceMul, Nat.reduceLT, Nat.reduceLeDiff, Nat.reduceEqDiff, Nat.reduceBEq, Int.reduceToNat]; refine hK' _ ?_; clear hK' K')
      refine AOps.nil ?_
      exact (Sub.mk ⟨rfl, rfl, rfl, rfl, trivial⟩ ⟨rfl, trivial⟩ ⟨trivial, trivial, rfl, trivial, trivial⟩ ⟨⟨trivial, trivial⟩, trivial⟩ ⟨rfl, trivial, rfl⟩)
    · rw [hg_5]
      iterate 3 (refine AOps.consU fun K' hK' => ?_; simp (disch := omega) only [go_sem, reduceCtorEq, ↓reduceIte, Nat.reduceAdd, Nat.reduceMul, Nat.reduceLT, Nat.reduceLeDiff, Nat.reduceEqDiff, Nat.reduceBEq, Int.reduceToNat]; refine hK' _ ?_; clear hK' K')
      refine AOps.nil ?_
      exact (Sub.mk ⟨rfl, rfl, rfl, rfl, trivial⟩ ⟨rfl, trivial⟩ ⟨trivial, trivial, rfl, trivial, trivial⟩ ⟨⟨trivial, trivial⟩, trivial⟩ ⟨rfl, trivial, rfl⟩)
  simp only [List.drop_succ_cons, List.drop_zero]
  iterate 1 (refine AOps.consU fun K' hK' => ?_; simp (disch := omega) only [go_sem, reduceCtorEq, ↓reduceIte, Nat.reduceAdd, Nat.reduceMul, Nat.reduceLT, Nat.reduceLeDiff, Nat.reduceEqDiff, Nat.reduceBEq, Int.reduceToNat]; refine hK' _ ?_; clear hK' K')
  refine AOps.nil ?_
  simp only [Post.then]
  refine hK_3 _ ?_
  clear hK_3 K_3
  refine AWp.cond (b := ((decide (n1 < 2)) || (decide (6 < n1)))) (by rfl) (fun hb_6 => ?_) (fun hb_6 => ?_)
  · rw [hb_6, cond_true] at h
    refine AWp.seq fun K_7 hK_7 => AWp.reg ?_
    iterate 3 (refine AOps.consU fun K' hK' => ?_; simp (disch := omega) only [go_sem, reduceCtorEq, ↓reduceIte, Nat.reduceAdd, Nat.reduceMul, Nat.reduceLT, Nat.reduceLeDiff, Nat.reduceEqDiff, Nat.reduceBEq, Int.reduceToNat]; refine hK' _ ?_; clear hK' K')
    refine AOps.nil ?_
    simp only [Post.then]
    refine hK_7 _ ?_
    clear hK_7 K_7
    refine AWp.ret ?_
    simp only [Post.then, Post.inBlock, Go.Pv.Fin, Go.Pv.FinG]
    rw [← Option.some.inj h]
    refine ⟨.tuple [.d (.agg [(.int .i64 0), .nilslice]), .d (.int .i64 2)], ?_, (by first | exact True.intro | rfl), .tuple [.d (.agg [(.int .i64 0), .nilslice]), .d (.int .i64 2)], ?_, ?_⟩
    · simp only [go_sem, Tryd.results52, List.length_append, List.length_set, List.length_replicate, reduceCtorEq, ↓reduceIte, Nat.reduceAdd, Nat.reduceMul, Nat.reduceLT, Nat.reduceLeDiff, Nat.reduceEqDiff, Nat.reduceBEq, Int.reduceToNat]
    · simp only [go_sem, lenc_nil, List.take_length, List.length_append, List.length_set, List.length_replicate, reduceCtorEq, ↓reduceIte, Nat.reduceAdd, Nat.reduceMul, Nat.reduceLT, Nat.reduceLeDiff, Nat.reduceEqDiff, Nat.reduceBEq, Int.reduceToNat]
    · (first | exact leV_refl _ | (simp only [go_sem, leV, leVL, leD, leDL, lenc_nil, leD_refl, leDL_refl, lstD_le, reduceCtorEq, ↓reduceIte, Nat.reduceAdd, Nat.reduceMul, Nat.reduceLT, Nat.reduceLeDiff, Nat.reduceEqDiff, Nat.reduceBEq, Int.reduceToNat]; done))
  · rw [hb_6, cond_false] at h
    refine AWp.seq fun K_8 hK_8 => AWp.reg ?_
    iterate 4 (refine AOps.consU fun K' hK' => ?_; simp (disch := omega) only [go_sem, reduceCtorEq, ↓reduceIte, Nat.reduceAdd, Nat.reduceMul, Nat.reduceLT, Nat.reduceLeDiff, Nat.reduceEqDiff, Nat.reduceBEq, Int.reduceToNat]; refine hK' _ ?_; clear hK' K')
    refine AOps.nil ?_
    simp only [Post.then]
    refine hK_8 _ ?_
    clear hK_8 K_8
    refine AWp.cond (b := (decide (40 < (offers1.length : Int)))) (by rfl) (fun hb_9 => ?_) (fun hb_9 => ?_)
    · rw [hb_9, cond_true] at h
      refine AWp.seq fun K_10 hK_10 => AWp.reg ?_
      iterate 3 (refine AOps.consU fun K' hK' => ?_; simp (disch := omega) only [go_sem, reduceCtorEq, ↓reduceIte, Nat.reduceAdd, Nat.reduceMul, Nat.reduceLT, Nat.reduceLeDiff, Nat.reduceEqDiff, Nat.reduceBEq, Int.reduceToNat]; refine hK' _ ?_; clear hK' K')
      refine AOps.nil ?_
      simp only [Post.then]
      refine hK_10 _ ?_
      clear hK_10 K_10
      refine AWp.ret ?_
      simp only [Post.then, Post.inBlock, Go.Pv.Fin, Go.Pv.FinG]
      rw [← Option.some.inj h]
      refine ⟨.tuple [.d (.agg [(.int .i64 0), .nilslice]), .d (.int .i64 3)], ?_, (by first | exact True.intro | rfl), .tuple [.d (.agg [(.int .i64 0), .nilslice]), .d (.int .i64 3)], ?_, ?_⟩
      · simp only [go_sem, Tryd.results52, List.length_append, List.length_set, List.length_replicate, reduceCtorEq, ↓reduceIte, Nat.reduceAdd, Nat.reduceMul, Nat.reduceLT, Nat.reduceLeDiff, Nat.reduceEqDiff, Nat.reduceBEq, Int.reduceToNat]
      · simp only [go_sem, lenc_nil, List.take_length, List.length_append, List.length_set, List.length_replicate, reduceCtorEq, ↓reduceIte, Nat.reduceAdd, Nat.reduceMul, Nat.reduceLT, Nat.reduceLeDiff, Nat.reduceEqDiff, Nat.reduceBEq, Int.reduceToNat]
      · (first | exact leV_refl _ | (simp only [go_sem, leV, leVL, leD, leDL, lenc_nil, leD_refl, leDL_refl, lstD_le, reduceCtorEq, ↓reduceIte, Nat.reduceAdd, Nat.reduceMul, Nat.reduceLT, Nat.reduceLeDiff, Nat.reduceEqDiff, Nat.reduceBEq, Int.reduceToNat]; done))
    · rw [hb_9, cond_false] at h
      refine AWp.skip ?_
      simp only [Post.then, Post.inBlock, ↓reduceIte, Nat.reduceEqDiff]
      refine hK_2 _ ?_
      clear hK_2 K_2
      refine AWp.seq fun K_11 hK_11 => AWp.reg ?_
      iterate 5 (refine AOps.consU fun K' hK' => ?_; simp (disch := omega) only [go_sem, reduceCtorEq, ↓reduceIte, Nat.reduceAdd, Nat.reduceMul, Nat.reduceLT, Nat.reduceLeDiff, Nat.reduceEqDiff, Nat.reduceBEq, Int.reduceToNat]; refine hK' _ ?_; clear hK' K')
      refine AOps.nil ?_
      simp only [Post.then]
      refine hK_11 _ ?_
      clear hK_11 K_11
      refine AWp.seq fun K_12 hK_12 => AWp.reg ?_
      iterate 1 (refine AOps.consU fun K' hK' => ?_; simp (disch := omega) only [go_sem, reduceCtorEq, ↓reduceIte, Nat.reduceAdd, Nat.reduceMul, Nat.reduceLT, Nat.reduceLeDiff, Nat.reduceEqDiff, Nat.reduceBEq, Int.reduceToNat]; refine hK' _ ?_; clear hK' K')
      refine AOps.nil ?_
      simp only [Post.then]
      refine hK_12 _ ?_
      clear hK_12 K_12
      obtain ⟨o_13, hj_14, h⟩ := bind_some h
      refine AWp.seqI (fun i_50 : Market => ⟨[(4, .ptr 1000 0 0), (6, .ptr 1001 0 0)], [(1000, ⟨77, 2, [.d (.agg [(.int .i64 i_50.n), (.imm 4 (lenc Offer.pd i_50.offers))])]⟩), (1001, ⟨77, 2, [.d (.agg [(.int .i64 n1), (.imm 4 (lenc Offer.pd offers1))])]⟩)], [], none⟩) (fun i_50 => o_13 = (.inl i_50)) ?_ ?_
      · refine AWp.seq fun K_15 hK_15 => AWp.reg ?_
        iterate 3 (refine AOps.consU fun K' hK' => ?_; simp (disch := omega) only [go_sem, reduceCtorEq, ↓reduceIte, Nat.reduceAdd, Nat.reduceMul, Nat.reduceLT, Nat.reduceLeDiff, Nat.reduceEqDiff, Nat.reduceBEq, Int.reduceToNat]; refine hK' _ ?_; clear hK' K')
        refine AOps.nil ?_
        simp only [Post.then]
        refine hK_15 _ ?_
        clear hK_15 K_15
        refine AWp.block ?_
        obtain ⟨x_20, hl_17, h2_18⟩ := bind_some hj_14
        obtain ⟨n_16, hl_17⟩ := iter_some hl_17
        refine AWp.loopI (fun i_48 : Nat × (Int × Market) => ⟨[(4, .ptr 1000 0 0), (6, .ptr 1001 0 0), (7, .d (.fn (.func 79))), (26, .d (.imm 4 (lenc Offer.pd offers1))), (27, .d (.int .i64 (offers1.length : Int))), (28, .d (.int .i64 i_48.2.1))], [(1000, ⟨77, 2, [.d (.agg [(.int .i64 i_48.2.2.n), (.imm 4 (lenc Offer.pd i_48.2.2.offers))])]⟩), (1001, ⟨77, 2, [.d (.agg [(.int .i64 n1), (.imm 4 (lenc Offer.pd offers1))])]⟩)], [], none⟩) (fun i_48 => iterN (m_rate_of_l1 n1 offers1) i_48.1 i_48.2 = some x_20) (fun i_48 => i_48.1) (n_16, (0, (⟨0, []⟩ : Market))) hl_17 (Sub.cvh ⟨⟨_, rfl, rfl, rfl, ⟨by simp only [leV, leD, leDL, lenc_nil, leD_refl, leDL_refl, lstD_le, and_self, and_true], trivial⟩⟩, ⟨_, rfl, rfl, rfl, leVL_refl _⟩, trivial⟩ ⟨rfl, rfl, trivial⟩ ⟨.inl ⟨leV_refl _, rfl⟩, .inl ⟨leV_refl _, rfl⟩, .inl ⟨leV_refl _, trivial⟩, .inl ⟨leV_refl _, trivial⟩, .inl ⟨leV_refl _, trivial⟩, .inl ⟨leV_refl _, trivial⟩, trivial⟩ ⟨⟨trivial, trivial⟩, ⟨trivial, trivial⟩, trivial⟩ ⟨rfl, trivial, rfl⟩) ?_
        clear hl_17
        rintro ⟨n_16, v1, c2⟩ hl_17
        try dsimp only at hl_17
        try dsimp only
        cases n_16 with
        | zero => cases hl_17
        | succ n_16 =>
          rw [iterN_succ] at hl_17
          obtain ⟨ob_21, hb_19, hl_17⟩ := bind_some hl_17
          unfold m_rate_of_l1 at hb_19
          try dsimp only at hb_19
          refine AWp.seq fun K_22 hK_22 => AWp.reg ?_
          iterate 1 (refine AOps.consU fun K' hK' => ?_; simp (disch := omega) only [go_sem, reduceCtorEq, ↓reduceIte, Nat.reduceAdd, Nat.reduceMul, Nat.reduceLT, Nat.reduceLeDiff, Nat.reduceEqDiff, Nat.reduceBEq, Int.reduceToNat]; refine hK' _ ?_; clear hK' K')
          refine AOps.nil ?_
          simp only [Post.then]
          refine hK_22 _ ?_
          clear hK_22 K_22
          refine AWp.seq fun K_23 hK_23 => ?_
          refine AWp.cond (b := (decide (v1 < (offers1.length : Int)))) (by rfl) (fun hb_24 => ?_) (fun hb_24 => ?_)
          · rw [hb_24, cond_true] at hb_19
            refine AWp.skip ?_
            simp only [Post.then, Post.inBlock, ↓reduceIte, Nat.reduceEqDiff]
            refine hK_23 _ ?_
            clear hK_23 K_23
            refine AWp.seq fun K_25 hK_25 => ?_
            refine AWp.block ?_
            refine AWp.seq fun K_26 hK_26 => AWp.reg ?_
            obtain ⟨e1, hx_27, hb_19⟩ := bind_some hb_19
            obtain ⟨f_28, f_29, f_30, f_31⟩ := idx_some hx_27
            iterate 4 (refine AOps.consU fun K' hK' => ?_; simp (disch := omega) only [go_sem, f_30, reduceCtorEq, ↓reduceIte, Nat.reduceAdd, Nat.reduceMul, Nat.reduceLT, Nat.reduceLeDiff, Nat.reduceEqDiff, Nat.reduceBEq, Int.reduceToNat]; refine hK' _ ?_; clear hK' K')
            refine AOps.nil ?_
            simp only [Post.then]
            refine hK_26 _ ?_
            clear hK_26 K_26
            refine AWp.seq fun K_32 hK_32 => AWp.reg ?_
            iterate 3 (refine AOps.consU fun K' hK' => ?_; simp (disch := omega) only [go_sem, reduceCtorEq, ↓reduceIte, Nat.reduceAdd, Nat.reduceMul, Nat.reduceLT, Nat.reduceLeDiff, Nat.reduceEqDiff, Nat.reduceBEq, Int.reduceToNat]; refine hK' _ ?_; clear hK' K')
            obtain ⟨r1, hx_33, hb_19⟩ := bind_some hb_19
            refine AOps.consU fun K' hK' => ?_; simp (disch := omega) only [go_sem, reduceCtorEq, ↓reduceIte, Nat.reduceAdd, Nat.reduceMul, Nat.reduceLT, Nat.reduceLeDiff, Nat.reduceEqDiff, Nat.reduceBEq, Int.reduceToNat]; refine OpT.call (by rfl) (by rfl) (by kernel_rfl) (m_rate_market_has_ok (⟨n1, offers1⟩ : Market) e1.From _ hx_33) (by exact ⟨rfl, rfl, trivial⟩) (by simp only [go_sem, reduceCtorEq, ↓reduceIte, Nat.reduceAdd, Nat.reduceMul, Nat.reduceLT, Nat.reduceLeDiff, Nat.reduceEqDiff, Nat.reduceBEq, Int.reduceToNat]) ?_ (by simp only [go_sem]); simp only [go_sem, reduceCtorEq, ↓reduceIte, Nat.reduceAdd, Nat.reduceMul, Nat.reduceLT, Nat.reduceLeDiff, Nat.reduceEqDiff, Nat.reduceBEq, Int.reduceToNat]; refine hK' _ ?_; clear hK' K'
            iterate 2 (refine AOps.consU fun K' hK' => ?_; simp (disch := omega) only [go_sem, reduceCtorEq, ↓reduceIte, Nat.reduceAdd, Nat.reduceMul, Nat.reduceLT, Nat.reduceLeDiff, Nat.reduceEqDiff, Nat.reduceBEq, Int.reduceToNat]; refine hK' _ ?_; clear hK' K')
            obtain ⟨b1, hc_34, hb_19⟩ := bind_some hb_19
            refine AOps.cut 6 (⟨[(4, .ptr 1000 0 0), (6, .ptr 1001 0 0), (7, .d (.fn (.func 79))), (9, .ptr 1002 0 0), (26, .d (.imm 4 (lenc Offer.pd offers1))), (27, .d (.int .i64 (offers1.length : Int))), (28, .d (.int .i64 v1)), (43, .d (.bool b1))], [(1000, ⟨77, 2, [.d (.agg [(.int .i64 c2.n), (.imm 4 (lenc Offer.pd c2.offers))])]⟩), (1001, ⟨77, 2, [.d (.agg [(.int .i64 n1), (.imm 4 (lenc Offer.pd offers1))])]⟩), (1002, ⟨43, 4, [.d (.agg [(.int .i64 e1.From), (.int .i64 e1.To), (.int .i64 e1.Num), (.int .i64 e1.Den)])]⟩)], [], none⟩) ?_ ?_
            · simp only [List.take_succ_cons, List.take_zero]
              rcases Bool.eq_false_or_eq_true (!r1) with hg_36 | hg_36
              · rw [hg_36]
                rw [hg_36, cond_true] at hc_34
                iterate 6 (refine AOps.consU fun K' hK' => ?_; simp (disch := omega) only [go_sem, reduceCtorEq, ↓reduceIte, Nat.reduceAdd, Nat.reduceMul, Nat.reduceLT, Nat.reduceLeDiff, Nat.reduceEqDiff, Nat.reduceBEq, Int.reduceToNat]; refine hK' _ ?_; clear hK' K')
                refine AOps.nil ?_
                have hc_34 := Option.some.inj hc_34
                subst hc_34
                exact (Sub.mk ⟨rfl, rfl, rfl, rfl, rfl, rfl, rfl, rfl, trivial⟩ ⟨rfl, rfl, rfl, trivial⟩ ⟨rfl, rfl, trivial, rfl, trivial, trivial, trivial, trivial, trivial⟩ ⟨⟨trivial, trivial⟩, ⟨trivial, trivial⟩, ⟨trivial, trivial⟩, trivial⟩ ⟨rfl, trivial, rfl⟩)
              · rw [hg_36]
                rw [hg_36, cond_false] at hc_34
                iterate 3 (refine AOps.consU fun K' hK' => ?_; simp (disch := omega) only [go_sem, reduceCtorEq, ↓reduceIte, Nat.reduceAdd, Nat.reduceMul, Nat.reduceLT, Nat.reduceLeDiff, Nat.reduceEqDiff, Nat.reduceBEq, Int.reduceToNat]; refine hK' _ ?_; clear hK' K')
                obtain ⟨r2, hx_35, hc_34⟩ := bind_some hc_34
                refine AOps.consU fun K' hK' => ?_; simp (disch := omega) only [go_sem, reduceCtorEq, ↓reduceIte, Nat.reduceAdd, Nat.reduceMul, Nat.reduceLT, Nat.reduceLeDiff, Nat.reduceEqDiff, Nat.reduceBEq, Int.reduceToNat]; refine OpT.call (by rfl) (by rfl) (by kernel_rfl) (m_rate_market_has_ok (⟨n1, offers1⟩ : Market) e1.To _ hx_35) (by exact ⟨rfl, rfl, trivial⟩) (by simp only [go_sem, reduceCtorEq, ↓reduceIte, Nat.reduceAdd, Nat.reduceMul, Nat.reduceLT, Nat.reduceLeDiff, Nat.reduceEqDiff, Nat.reduceBEq, Int.reduceToNat]) ?_ (by simp only [go_sem]); simp only [go_sem, reduceCtorEq, ↓reduceIte, Nat.reduceAdd, Nat.reduceMul, Nat.reduceLT, Nat.reduceLeDiff, Nat.reduceEqDiff, Nat.reduceBEq, Int.reduceToNat]; refine hK' _ ?_; clear hK' K'
                iterate 2 (refine AOps.consU fun K' hK' => ?_; simp (disch := omega) only [go_sem, reduceCtorEq, ↓reduceIte, Nat.reduceAdd, Nat.reduceMul, Nat.reduceLT, Nat.reduceLeDiff, Nat.reduceEqDiff, Nat.reduceBEq, Int.reduceToNat]; refine hK' _ ?_; clear hK' K')
                refine AOps.nil ?_
                have hc_34 := Option.some.inj hc_34
                subst hc_34
                exact (Sub.mk ⟨rfl, rfl, rfl, rfl, rfl, rfl, rfl, rfl, trivial⟩ ⟨rfl, rfl, rfl, trivial⟩ ⟨rfl, rfl, trivial, rfl, trivial, trivial, trivial, trivial, trivial⟩ ⟨⟨trivial, trivial⟩, ⟨trivial, trivial⟩, ⟨trivial, trivial⟩, trivial⟩ ⟨rfl, trivial, rfl⟩)
            simp only [List.drop_succ_cons, List.drop_zero]
            iterate 1 (refine AOps.consU fun K' hK' => ?_; simp (disch := omega) only [go_sem, reduceCtorEq, ↓reduceIte, Nat.reduceAdd, Nat.reduceMul, Nat.reduceLT, Nat.reduceLeDiff, Nat.reduceEqDiff, Nat.reduceBEq, Int.reduceToNat]; refine hK' _ ?_; clear hK' K')
            refine AOps.cut 6 (⟨[(4, .ptr 1000 0 0), (6, .ptr 1001 0 0), (7, .d (.fn (.func 79))), (9, .ptr 1002 0 0), (26, .d (.imm 4 (lenc Offer.pd offers1))), (27, .d (.int .i64 (offers1.length : Int))), (28, .d (.int .i64 v1)), (50, .d (.bool (b1 || (decide (e1.From = e1.To)))))], [(1000, ⟨77, 2, [.d (.agg [(.int .i64 c2.n), (.imm 4 (lenc Offer.pd c2.offers))])]⟩), (1001, ⟨77, 2, [.d (.agg [(.int .i64 n1), (.imm 4 (lenc Offer.pd offers1))])]⟩), (1002, ⟨43, 4, [.d (.agg [(.int .i64 e1.From), (.int .i64 e1.To), (.int .i64 e1.Num), (.int .i64 e1.Den)])]⟩)], [], none⟩) ?_ ?_
            · simp only [List.take_succ_cons, List.take_zero]
              rcases Bool.eq_false_or_eq_true b1 with hg_38 | hg_38
              · rw [hg_38]
                iterate 6 (refine AOps.consU fun K' hK' => ?_; simp (disch := omega) only [go_sem, reduceCtorEq, ↓reduceIte, Nat.reduceAdd, Nat.reduceMul, Nat.reduceLT, Nat.reduceLeDiff, Nat.reduceEqDiff, Nat.reduceBEq, Int.reduceToNat]; refine hK' _ ?_; clear hK' K')
                refine AOps.nil ?_
                exact (Sub.mk ⟨rfl, rfl, rfl, rfl, rfl, rfl, rfl, rfl, trivial⟩ ⟨rfl, rfl, rfl, trivial⟩ ⟨rfl, rfl, trivial, rfl, trivial, trivial, trivial, trivial, trivial⟩ ⟨⟨trivial, trivial⟩, ⟨trivial, trivial⟩, ⟨trivial, trivial⟩, trivial⟩ ⟨rfl, trivial, rfl⟩)
              · rw [hg_38]
                iterate 6 (refine AOps.consU fun K' hK' => ?_; simp (disch := omega) only [go_sem, reduceCtorEq, ↓reduceIte, Nat.reduceAdd, Nat.reduceMul, Nat.reduceLT, Nat.reduceLeDiff, Nat.reduceEqDiff, Nat.reduceBEq, Int.reduceToNat]; refine hK' _ ?_; clear hK' K')
                refine AOps.nil ?_
                exact (Sub.mk ⟨rfl, rfl, rfl, rfl, rfl, rfl, rfl, rfl, trivial⟩ ⟨rfl, rfl, rfl, trivial⟩ ⟨rfl, rfl, trivial, rfl, trivial, trivial, trivial, trivial, trivial⟩ ⟨⟨trivial, trivial⟩, ⟨trivial, trivial⟩, ⟨trivial, trivial⟩, trivial⟩ ⟨rfl, trivial, rfl⟩)
            simp only [List.drop_succ_cons, List.drop_zero]
            iterate 1 (refine AOps.consU fun K' hK' => ?_; simp (disch := omega) only [go_sem, reduceCtorEq, ↓reduceIte, Nat.reduceAdd, Nat.reduceMul, Nat.reduceLT, Nat.reduceLeDiff, Nat.reduceEqDiff, Nat.reduceBEq, Int.reduceToNat]; refine hK' _ ?_; clear hK' K')
            obtain ⟨b2, hc_39, hb_19⟩ := bind_some hb_19
            refine AOps.cut 6 (⟨[(4, .ptr 1000 0 0), (6, .ptr 1001 0 0), (7, .d (.fn (.func 79))), (9, .ptr 1002 0 0), (26, .d (.imm 4 (lenc Offer.pd offers1))), (27, .d (.int .i64 (offers1.length : Int))), (28, .d (.int .i64 v1)), (57, .d (.bool b2))], [(1000, ⟨77, 2, [.d (.agg [(.int .i64 c2.n), (.imm 4 (lenc Offer.pd c2.offers))])]⟩), (1001, ⟨77, 2, [.d (.agg [(.int .i64 n1), (.imm 4 (lenc Offer.pd offers1))])]⟩), (1002, ⟨43, 4, [.d (.agg [(.int .i64 e1.From), (.int .i64 e1.To), (.int .i64 e1.Num), (.int .i64 e1.Den)])]⟩)], [], none⟩) ?_ ?_
            · simp only [List.take_succ_cons, List.take_zero]
              rcases Bool.eq_false_or_eq_true (b1 || (decide (e1.From = e1.To))) with hg_41 | hg_41
              · rw [hg_41]
                rw [hg_41, cond_true] at hc_39
                iterate 6 (refine AOps.consU fun K' hK' => ?_; simp (disch := omega) only [go_sem, reduceCtorEq, ↓reduceIte, Nat.reduceAdd, Nat.reduceMul, Nat.reduceLT, Nat.reduceLeDiff, Nat.reduceEqDiff, Nat.reduceBEq, Int.reduceToNat]; refine hK' _ ?_; clear hK' K')
                refine AOps.nil ?_
                have hc_39 := Option.some.inj hc_39
                subst hc_39
                exact (Sub.mk ⟨rfl, rfl, rfl, rfl, rfl, rfl, rfl, rfl, trivial⟩ ⟨rfl, rfl, rfl, trivial⟩ ⟨rfl, rfl, trivial, rfl, trivial, trivial, trivial, trivial, trivial⟩ ⟨⟨trivial, trivial⟩, ⟨trivial, trivial⟩, ⟨trivial, trivial⟩, trivial⟩ ⟨rfl, trivial, rfl⟩)
              · rw [hg_41]
                rw [hg_41, cond_false] at hc_39
                iterate 3 (refine AOps.consU fun K' hK' => ?_; simp (disch := omega) only [go_sem, reduceCtorEq, ↓reduceIte, Nat.reduceAdd, Nat.reduceMul, Nat.reduceLT, Nat.reduceLeDiff, Nat.reduceEqDiff, Nat.reduceBEq, Int.reduceToNat]; refine hK' _ ?_; clear hK' K')
                obtain ⟨r3, hx_40, hc_39⟩ := bind_some hc_39
                refine AOps.consC (by simp only [go_sem, reduceCtorEq, ↓reduceIte, Nat.reduceAdd, Nat.reduceMul, Nat.reduceLT, Nat.reduceLeDiff, Nat.reduceEqDiff, Nat.reduceBEq, Int.reduceToNat]) fun K' hK' => ?_; simp (disch := omega) only [go_sem, reduceCtorEq, ↓reduceIte, Nat.reduceAdd, Nat.reduceMul, Nat.reduceLT, Nat.reduceLeDiff, Nat.reduceEqDiff, Nat.reduceBEq, Int.reduceToNat]; refine OpT.callV (by rfl) (by rfl) (by rfl) (by kernel_rfl) (m_rate_of_1_ok e1.Num _ hx_40) (by exact ⟨rfl, trivial⟩) (by simp only [go_sem, reduceCtorEq, ↓reduceIte, Nat.reduceAdd, Nat.reduceMul, Nat.reduceLT, Nat.reduceLeDiff, Nat.reduceEqDiff, Nat.reduceBEq, Int.reduceToNat]) ?_ (by simp only [go_sem]) (by simp only [clean, cleanL, and_self]) (by simp only [go_sem]) (by rfl); simp only [go_sem, reduceCtorEq, ↓reduceIte, Nat.reduceAdd, Nat.reduceMul, Nat.reduceLT, Nat.reduceLeDiff, Nat.reduceEqDiff, Nat.reduceBEq, Int.reduceToNat]; refine hK' _ ?_; clear hK' K'
                iterate 2 (refine AOps.consU fun K' hK' => ?_; simp (disch := omega) only [go_sem, reduceCtorEq, ↓reduceIte, Nat.reduceAdd, Nat.reduceMul, Nat.reduceLT, Nat.reduceLeDiff, Nat.reduceEqDiff, Nat.reduceBEq, Int.reduceToNat]; refine hK' _ ?_; clear hK' K')
                refine AOps.nil ?_
                have hc_39 := Option.some.inj hc_39
                subst hc_39
                exact (Sub.mk ⟨rfl, rfl, rfl, rfl, rfl, rfl, rfl, rfl, trivial⟩ ⟨rfl, rfl, rfl, trivial⟩ ⟨rfl, rfl, trivial, rfl, trivial, trivial, trivial, trivial, trivial⟩ ⟨⟨trivial, trivial⟩, ⟨trivial, trivial⟩, ⟨trivial, trivial⟩, trivial⟩ ⟨rfl, trivial, rfl⟩)
            simp only [List.drop_succ_cons, List.drop_zero]
            iterate 1 (refine AOps.consU fun K' hK' => ?_; simp (disch := omega) only [go_sem, reduceCtorEq, ↓reduceIte, Nat.reduceAdd, Nat.reduceMul, Nat.reduceLT, Nat.reduceLeDiff, Nat.reduceEqDiff, Nat.reduceBEq, Int.reduceToNat]; refine hK' _ ?_; clear hK' K')
            obtain ⟨b3, hc_42, hb_19⟩ := bind_some hb_19
            refine AOps.cut 6 (⟨[(4, .ptr 1000 0 0), (6, .ptr 1001 0 0), (7, .d (.fn (.func 79))), (26, .d (.imm 4 (lenc Offer.pd offers1))), (27, .d (.int .i64 (offers1.length : Int))), (28, .d (.int .i64 v1)), (64, .d (.bool b3))], [(1000, ⟨77, 2, [.d (.agg [(.int .i64 c2.n), (.imm 4 (lenc Offer.pd c2.offers))])]⟩), (1001, ⟨77, 2, [.d (.agg [(.int .i64 n1), (.imm 4 (lenc Offer.pd offers1))])]⟩)], [], none⟩) ?_ ?_
            · simp only [List.take_succ_cons, List.take_zero]
              rcases Bool.eq_false_or_eq_true b2 with hg_44 | hg_44
              · rw [hg_44]
                rw [hg_44, cond_true] at hc_42
                iterate 6 (refine AOps.consU fun K' hK' => ?_; simp (disch := omega) only [go_sem, reduceCtorEq, ↓reduceIte, Nat.reduceAdd, Nat.reduceMul, Nat.reduceLT, Nat.reduceLeDiff, Nat.reduceEqDiff, Nat.reduceBEq, Int.reduceToNat]; refine hK' _ ?_; clear hK' K')
                refine AOps.nil ?_
                have hc_42 := Option.some.inj hc_42
                subst hc_42
                exact (Sub.mk ⟨rfl, rfl, rfl, rfl, rfl, rfl, rfl, trivial⟩ ⟨rfl, rfl, trivial⟩ ⟨rfl, rfl, trivial, trivial, trivial, trivial, trivial, trivial⟩ ⟨⟨trivial, trivial⟩, ⟨trivial, trivial⟩, trivial⟩ ⟨rfl, trivial, rfl⟩)
              · rw [hg_44]
                rw [hg_44, cond_false] at hc_42
                iterate 3 (refine AOps.consU fun K' hK' => ?_; simp (disch := omega) only [go_sem, reduceCtorEq, ↓reduceIte, Nat.reduceAdd, Nat.reduceMul, Nat.reduceLT, Nat.reduceLeDiff, Nat.reduceEqDiff, Nat.reduceBEq, Int.reduceToNat]; refine hK' _ ?_; clear hK' K')
                obtain ⟨r4, hx_43, hc_42⟩ := bind_some hc_42
                refine AOps.consC (by simp only [go_sem, reduceCtorEq, ↓reduceIte, Nat.reduceAdd, Nat.reduceMul, Nat.reduceLT, Nat.reduceLeDiff, Nat.reduceEqDiff, Nat.reduceBEq, Int.reduceToNat]) fun K' hK' => ?_; simp (disch := omega) only [go_sem, reduceCtorEq, ↓reduceIte, Nat.reduceAdd, Nat.reduceMul, Nat.reduceLT, Nat.reduceLeDiff, Nat.reduceEqDiff, Nat.reduceBEq, Int.reduceToNat]; refine OpT.callV (by rfl) (by rfl) (by rfl) (by kernel_rfl) (m_rate_of_1_ok e1.Den _ hx_43) (by exact ⟨rfl, trivial⟩) (by simp only [go_sem, reduceCtorEq, ↓reduceIte, Nat.reduceAdd, Nat.reduceMul, Nat.reduceLT, Nat.reduceLeDiff, Nat.reduceEqDiff, Nat.reduceBEq, Int.reduceToNat]) ?_ (by simp only [go_sem]) (by simp only [clean, cleanL, and_self]) (by simp only [go_sem]) (by rfl); simp only [go_sem, reduceCtorEq, ↓reduceIte, Nat.reduceAdd, Nat.reduceMul, Nat.reduceLT, Nat.reduceLeDiff, Nat.reduceEqDiff, Nat.reduceBEq, Int.reduceToNat]; refine hK' _ ?_; clear hK' K'
                iterate 2 (refine AOps.consU fun K' hK' => ?_; simp (disch := omega) only [go_sem, reduceCtorEq, ↓reduceIte, Nat.reduceAdd, Nat.reduceMul, Nat.reduceLT, Nat.reduceLeDiff, Nat.reduceEqDiff, Nat.reduceBEq, Int.reduceToNat]; refine hK' _ ?_; clear hK' K')
                refine AOps.nil ?_
                have hc_42 := Option.some.inj hc_42
                subst hc_42
                exact (Sub.mk ⟨rfl, rfl, rfl, rfl, rfl, rfl, rfl, trivial⟩ ⟨rfl, rfl, trivial⟩ ⟨rfl, rfl, trivial, trivial, trivial, trivial, trivial, trivial⟩ ⟨⟨trivial, trivial⟩, ⟨trivial, trivial⟩, trivial⟩ ⟨rfl, trivial, rfl⟩)
            simp only [List.drop_succ_cons, List.drop_zero]
            refine AOps.nil ?_
            simp only [Post.then]
            refine hK_32 _ ?_
            clear hK_32 K_32
            refine AWp.cond (b := b3) (by rfl) (fun hb_45 => ?_) (fun hb_45 => ?_)
            · rw [hb_45, cond_true] at hb_19
              refine AWp.seq fun K_46 hK_46 => AWp.reg ?_
              iterate 3 (refine AOps.consU fun K' hK' => ?_; simp (disch := omega) only [go_sem, reduceCtorEq, ↓reduceIte, Nat.reduceAdd, Nat.reduceMul, Nat.reduceLT, Nat.reduceLeDiff, Nat.reduceEqDiff, Nat.reduceBEq, Int.reduceToNat]; refine hK' _ ?_; clear hK' K')
              refine AOps.nil ?_
              simp only [Post.then]
              refine hK_46 _ ?_
              clear hK_46 K_46
              refine AWp.ret ?_
              simp only [Post.then, Post.inBlock, Go.Pv.Fin, Go.Pv.FinG]
              rw [← Option.some.inj hb_19] at hl_17
              try dsimp only at hl_17
              rw [← Option.some.inj hl_17] at h2_18
              try dsimp only at h2_18
              rw [← Option.some.inj h2_18] at h
              try dsimp only at h
              rw [← Option.some.inj h]
              refine ⟨.tuple [.d (.agg [(.int .i64 0), .nilslice]), .d (.int .i64 2)], ?_, (by first | exact True.intro | rfl), .tuple [.d (.agg [(.int .i64 0), .nilslice]), .d (.int .i64 2)], ?_, ?_⟩
              · simp only [go_sem, Tryd.results52, List.length_append, List.length_set, List.length_replicate, reduceCtorEq, ↓reduceIte, Nat.reduceAdd, Nat.reduceMul, Nat.reduceLT, Nat.reduceLeDiff, Nat.reduceEqDiff, Nat.reduceBEq, Int.reduceToNat]
              · simp only [go_sem, lenc_nil, List.take_length, List.length_append, List.length_set, List.length_replicate, reduceCtorEq, ↓reduceIte, Nat.reduceAdd, Nat.reduceMul, Nat.reduceLT, Nat.reduceLeDiff, Nat.reduceEqDiff, Nat.reduceBEq, Int.reduceToNat]
              · (first | exact leV_refl _ | (simp only [go_sem, leV, leVL, leD, leDL, lenc_nil, leD_refl, leDL_refl, lstD_le, reduceCtorEq, ↓reduceIte, Nat.reduceAdd, Nat.reduceMul, Nat.reduceLT, Nat.reduceLeDiff, Nat.reduceEqDiff, Nat.reduceBEq, Int.reduceToNat]; done))
            · rw [hb_45, cond_false] at hb_19
              refine AWp.skip ?_
              simp only [Post.then, Post.inBlock, ↓reduceIte, Nat.reduceEqDiff]
              refine hK_25 _ ?_
              clear hK_25 K_25
              refine AWp.reg ?_
              iterate 2 (refine AOps.consU fun K' hK' => ?_; simp (disch := omega) only [go_sem, reduceCtorEq, ↓reduceIte, Nat.reduceAdd, Nat.reduceMul, Nat.reduceLT, Nat.reduceLeDiff, Nat.reduceEqDiff, Nat.reduceBEq, Int.reduceToNat]; refine hK' _ ?_; clear hK' K')
              refine AOps.nil ?_
              simp only [Post.then, Post.inBlock, ↓reduceIte, Nat.reduceEqDiff]
              rw [← Option.some.inj hb_19] at hl_17
              try dsimp only at hl_17
              exact ⟨(n_16, ((IntKind.i64.wrap (v1 + 1)), c2)), hl_17, Nat.lt_succ_self n_16, (Sub.mk ⟨rfl, rfl, rfl, rfl, rfl, rfl, trivial⟩ ⟨rfl, rfl, trivial⟩ ⟨rfl, rfl, trivial, trivial, trivial, trivial, trivial⟩ ⟨⟨trivial, trivial⟩, ⟨trivial, trivial⟩, trivial⟩ ⟨rfl, trivial, rfl⟩)⟩
          · rw [hb_24, cond_false] at hb_19
            refine AWp.exit ?_
            simp only [Post.then, Post.inBlock, ↓reduceIte, Nat.reduceEqDiff]
            rw [← Option.some.inj hb_19] at hl_17
            try dsimp only at hl_17
            rw [← Option.some.inj hl_17] at h2_18
            try dsimp only at h2_18
            exact ⟨c2, (Option.some.inj h2_18).symm, (Sub.mk ⟨rfl, rfl, trivial⟩ ⟨rfl, rfl, trivial⟩ ⟨rfl, rfl, trivial⟩ ⟨⟨trivial, trivial⟩, ⟨trivial, trivial⟩, trivial⟩ ⟨rfl, trivial, rfl⟩)⟩
      · rintro c1 hx_51
        rw [hx_51] at h
        try dsimp only at h
        try dsimp only
        refine AWp.seq fun K_49 hK_49 => AWp.reg ?_
        iterate 3 (refine AOps.consU fun K' hK' => ?_; simp (disch := omega) only [go_sem, reduceCtorEq, ↓reduceIte, Nat.reduceAdd, Nat.reduceMul, Nat.reduceLT, Nat.reduceLeDiff, Nat.reduceEqDiff, Nat.reduceBEq, Int.reduceToNat]; refine hK' _ ?_; clear hK' K')
        refine AOps.nil ?_
        simp only [Post.then]
        refine hK_49 _ ?_
        clear hK_49 K_49
        refine AWp.ret ?_
        simp only [Post.then, Post.inBlock, Go.Pv.Fin, Go.Pv.FinG]
        rw [← Option.some.inj h]
        refine ⟨.tuple [.d (.agg [(.int .i64 n1), (.imm 4 (lenc Offer.pd offers1))]), .d (.int .i64 0)], ?_, (by first | exact True.intro | rfl), .tuple [.d (.agg [(.int .i64 n1), (.imm 4 (lenc Offer.pd offers1))]), .d (.int .i64 0)], ?_, ?_⟩
        · simp only [go_sem, Tryd.results52, List.length_append, List.length_set, List.length_replicate, reduceCtorEq, ↓reduceIte, Nat.reduceAdd, Nat.reduceMul, Nat.reduceLT, Nat.reduceLeDiff, Nat.reduceEqDiff, Nat.reduceBEq, Int.reduceToNat]
        · simp only [go_sem, lenc_nil, List.take_length, List.length_append, List.length_set, List.length_replicate, reduceCtorEq, ↓reduceIte, Nat.reduceAdd, Nat.reduceMul, Nat.reduceLT, Nat.reduceLeDiff, Nat.reduceEqDiff, Nat.reduceBEq, Int.reduceToNat]
        · (first | exact leV_refl _ | (simp only [go_sem, leV, leVL, leD, leDL, lenc_nil, leD_refl, leDL_refl, lstD_le, reduceCtorEq, ↓reduceIte, Nat.reduceAdd, Nat.reduceMul, Nat.reduceLT, Nat.reduceLeDiff, Nat.reduceEqDiff, Nat.reduceBEq, Int.reduceToNat]; done))

end Go.Pv.Tryd

namespace Go.Pv.Tryd
open Go.Proofs Go.Pv

theorem m_rate_gcd_ok (a1 : Int) (b1 : Int) (r : Int) (h : m_rate_gcd a1 b1 = some r) : PureFn Tryd.prog G 67 [.d (.int .i64 a1), .d (.int .i64 b1)] (.d (.int .i64 r)) := by
  unfold m_rate_gcd at h
  refine PureFn.intro2 Tryd.func67 (by rfl) (by rw [Tryd.ntmps67]; simp) ?_
  rw [Tryd.ntmps67]
  simp only [argEnv, reduceCtorEq, ↓reduceIte, Nat.reduceAdd, Nat.reduceMul, Nat.reduceLT, Nat.reduceLeDiff, Nat.reduceEqDiff, Nat.reduceBEq, Int.reduceToNat]
  refine AWp.seq fun K_1 hK_1 => AWp.reg ?_
  iterate 1 (refine AOps.consU fun K' hK' => ?_; simp (disch := omega) only [go_sem, reduceCtorEq, ↓reduceIte, Nat.reduceAdd, Nat.reduceMul, Nat.reduceLT, Nat.reduceLeDiff, Nat.reduceEqDiff, Nat.reduceBEq, Int.reduceToNat]; refine hK' _ ?_; clear hK' K')
  refine AOps.nil ?_
  simp only [Post.then]
  refine hK_1 _ ?_
  clear hK_1 K_1
  obtain ⟨o_2, hj_3, h⟩ := bind_some h
  refine AWp.seqI (fun i_17 : Int => ⟨[(0, .d (.int .i64 i_17))], [], [], none⟩) (fun i_17 => o_2 = i_17) ?_ ?_
  · refine AWp.block ?_
    obtain ⟨x_8, hl_5, h2_6⟩ := bind_some hj_3
    obtain ⟨n_4, hl_5⟩ := iter_some hl_5
    refine AWp.loopI (fun i_15 : Nat × (Int × Int) => ⟨[(0, .d (.int .i64 i_15.2.1)), (1, .d (.int .i64 i_15.2.2))], [], [], none⟩) (fun i_15 => iterN m_rate_gcd_l1 i_15.1 i_15.2 = some x_8) (fun i_15 => i_15.1) (n_4, (a1, b1)) hl_5 (Sub.mk ⟨rfl, rfl, trivial⟩ trivial ⟨trivial, trivial, trivial⟩ trivial ⟨rfl, trivial, rfl⟩) ?_
    clear hl_5
    rintro ⟨n_4, a3, b2⟩ hl_5
    try dsimp only at hl_5
    try dsimp only
    cases n_4 with
    | zero => cases hl_5
    | succ n_4 =>
      rw [iterN_succ] at hl_5
      obtain ⟨ob_9, hb_7, hl_5⟩ := bind_some hl_5
      unfold m_rate_gcd_l1 at hb_7
      try dsimp only at hb_7
      refine AWp.seq fun K_10 hK_10 => ?_
      refine AWp.seq fun K_11 hK_11 => AWp.reg ?_
      iterate 2 (refine AOps.consU fun K' hK' => ?_; simp (disch := omega) only [go_sem, reduceCtorEq, ↓reduceIte, Nat.reduceAdd, Nat.reduceMul, Nat.reduceLT, Nat.reduceLeDiff, Nat.reduceEqDiff, Nat.reduceBEq, Int.reduceToNat]; refine hK' _ ?_; clear hK' K')
      refine AOps.nil ?_
      simp only [Post.then]
      refine hK_11 _ ?_
      clear hK_11 K_11
      refine AWp.cond (b := (decide (¬b2 = 0))) (by rfl) (fun hb_12 => ?_) (fun hb_12 => ?_)
      · rw [hb_12, cond_true] at hb_7
        refine AWp.skip ?_
        simp only [Post.then, Post.inBlock, ↓reduceIte, Nat.reduceEqDiff]
        refine hK_10 _ ?_
        clear hK_10 K_10
        refine AWp.block ?_
        refine AWp.draw mo [] (by trivial) ?_
        obtain ⟨hg_14, hb_7⟩ := guardO_some hb_7
        iterate 6 (refine DOps.consU fun K' hK' => ?_; simp (disch := omega) only [go_sem, reduceCtorEq, ↓reduceIte, Nat.reduceAdd, Nat.reduceMul, Nat.reduceLT, Nat.reduceLeDiff, Nat.reduceEqDiff, Nat.reduceBEq, Int.reduceToNat]; refine hK' _ _ ?_; clear hK' K'; simp only [List.nil_append, List.cons_append])
        refine DOps.nil (by kernel_rfl) ?_
        simp only [Post.then, Post.inBlock, ↓reduceIte, Nat.reduceEqDiff]
        rw [← Option.some.inj hb_7] at hl_5
        try dsimp only at hl_5
        exact ⟨(n_4, (b2, (a3.tmod b2))), hl_5, Nat.lt_succ_self n_4, (Sub.mk ⟨rfl, rfl, trivial⟩ trivial ⟨trivial, trivial, trivial⟩ trivial ⟨rfl, trivial, rfl⟩)⟩
      · rw [hb_12, cond_false] at hb_7
        refine AWp.exit ?_
        simp only [Post.then, Post.inBlock, ↓reduceIte, Nat.reduceEqDiff]
        rw [← Option.some.inj hb_7] at hl_5
        try dsimp only at hl_5
        rw [← Option.some.inj hl_5] at h2_6
        try dsimp only at h2_6
        exact ⟨a3, (Option.some.inj h2_6).symm, (Sub.mk ⟨rfl, trivial⟩ trivial ⟨trivial, trivial⟩ trivial ⟨rfl, trivial, rfl⟩)⟩
  · rintro a2 hx_18
    rw [hx_18] at h
    try dsimp only at h
    try dsimp only
    refine AWp.seq fun K_16 hK_16 => AWp.reg ?_
    iterate 2 (refine AOps.consU fun K' hK' => ?_; simp (disch := omega) only [go_sem, reduceCtorEq, ↓reduceIte, Nat.reduceAdd, Nat.reduceMul, Nat.reduceLT, Nat.reduceLeDiff, Nat.reduceEqDiff, Nat.reduceBEq, Int.reduceToNat]; refine hK' _ ?_; clear hK' K')
    refine AOps.nil ?_
    simp only [Post.then]
    refine hK_16 _ ?_
    clear hK_16 K_16
    refine AWp.ret ?_
    simp only [Post.then, Post.inBlock, Go.Pv.Fin, Go.Pv.FinG]
    rw [← Option.some.inj h]
    refine ⟨.d (.int .i64 a2), ?_, (by first | exact True.intro | rfl), .d (.int .i64 a2), ?_, ?_⟩
    · simp only [go_sem, Tryd.results67, List.length_append, List.length_set, List.length_replicate, reduceCtorEq, ↓reduceIte, Nat.reduceAdd, Nat.reduceMul, Nat.reduceLT, Nat.reduceLeDiff, Nat.reduceEqDiff, Nat.reduceBEq, Int.reduceToNat]
    · simp only [go_sem, lenc_nil, List.take_length, List.length_append, List.length_set, List.length_replicate, reduceCtorEq, ↓reduceIte, Nat.reduceAdd, Nat.reduceMul, Nat.reduceLT, Nat.reduceLeDiff, Nat.reduceEqDiff, Nat.reduceBEq, Int.reduceToNat]
    · (first | exact leV_refl _ | (simp only [go_sem, leV, leVL, leD, leDL, lenc_nil, leD_refl, leDL_refl, lstD_le, reduceCtorEq, ↓reduceIte, Nat.reduceAdd, Nat.reduceMul, Nat.reduceLT, Nat.reduceLeDiff, Nat.reduceEqDiff, Nat.reduceBEq, Int.reduceToNat]; done))

end Go.Pv.Tryd

namespace Go.Pv.Tryd
open Go.Proofs Go.Pv

theorem m_rate_ratio_ok (a1 : Int) (b1 : Int) (r : Ratio) (h : m_rate_ratio a1 b1 = some r) : PureFn Tryd.prog G 62 [.d (.int .i64 a1), .d (.int .i64 b1)] (.d (.agg [(.int .i64 r.Num), (.int .i64 r.Den)])) := by
  unfold m_rate_ratio at h
  refine PureFn.intro2 Tryd.func62 (by rfl) (by rw [Tryd.ntmps62]; simp) ?_
  rw [Tryd.ntmps62]
  simp only [argEnv, reduceCtorEq, ↓reduceIte, Nat.reduceAdd, Nat.reduceMul, Nat.reduceLT, Nat.reduceLeDiff, Nat.reduceEqDiff, Nat.reduceBEq, Int.reduceToNat]
  refine AWp.seq fun K_1 hK_1 => AWp.reg ?_
  iterate 1 (refine AOps.consU fun K' hK' => ?_; simp (disch := omega) only [go_sem, reduceCtorEq, ↓reduceIte, Nat.reduceAdd, Nat.reduceMul, Nat.reduceLT, Nat.reduceLeDiff, Nat.reduceEqDiff, Nat.reduceBEq, Int.reduceToNat]; refine hK' _ ?_; clear hK' K')
  refine AOps.nil ?_
  simp only [Post.then]
  refine hK_1 _ ?_
  clear hK_1 K_1
  refine AWp.seq fun K_2 hK_2 => AWp.reg ?_
  iterate 2 (refine AOps.consU fun K' hK' => ?_; simp (disch := omega) only [go_sem, reduceCtorEq, ↓reduceIte, Nat.reduceAdd, Nat.reduceMul, Nat.reduceLT, Nat.reduceLeDiff, Nat.reduceEqDiff, Nat.reduceBEq, Int.reduceToNat]; refine hK' _ ?_; clear hK' K')
  obtain ⟨r1, hx_3, h⟩ := bind_some h
  refine AOps.consU fun K' hK' => ?_; simp (disch := omega) only [go_sem, reduceCtorEq, ↓reduceIte, Nat.reduceAdd, Nat.reduceMul, Nat.reduceLT, Nat.reduceLeDiff, Nat.reduceEqDiff, Nat.reduceBEq, Int.reduceToNat]; refine OpT.call (by rfl) (by rfl) (by kernel_rfl) (m_rate_gcd_ok a1 b1 _ hx_3) (by exact ⟨rfl, rfl, trivial⟩) (by simp only [go_sem, reduceCtorEq, ↓reduceIte, Nat.reduceAdd, Nat.reduceMul, Nat.reduceLT, Nat.reduceLeDiff, Nat.reduceEqDiff, Nat.reduceBEq, Int.reduceToNat]) ?_ (by simp only [go_sem]); simp only [go_sem, reduceCtorEq, ↓reduceIte, Nat.reduceAdd, Nat.reduceMul, Nat.reduceLT, Nat.reduceLeDiff, Nat.reduceEqDiff, Nat.reduceBEq, Int.reduceToNat]; refine hK' _ ?_; clear hK' K'
  iterate 1 (refine AOps.consU fun K' hK' => ?_; simp (disch := omega) only [go_sem, reduceCtorEq, ↓reduceIte, Nat.reduceAdd, Nat.reduceMul, Nat.reduceLT, Nat.reduceLeDiff, Nat.reduceEqDiff, Nat.reduceBEq, Int.reduceToNat]; refine hK' _ ?_; clear hK' K')
  refine AOps.nil ?_
  simp only [Post.then]
  refine hK_2 _ ?_
  clear hK_2 K_2
  refine AWp.seq fun K_4 hK_4 => AWp.draw mo [] (by trivial) ?_
  obtain ⟨hg_5, h⟩ := guardO_some h
  obtain ⟨hg_6, h⟩ := guardO_some h
  iterate 8 (refine DOps.consU fun K' hK' => ?_; simp (disch := omega) only [go_sem, reduceCtorEq, ↓reduceIte, Nat.reduceAdd, Nat.reduceMul, Nat.reduceLT, Nat.reduceLeDiff, Nat.reduceEqDiff, Nat.reduceBEq, Int.reduceToNat]; refine hK' _ _ ?_; clear hK' K'; simp only [List.nil_append, List.cons_append])
  refine DOps.nil (by kernel_rfl) ?_
  simp only [Post.then]
  refine hK_4 _ ?_
  clear hK_4 K_4
  refine AWp.ret ?_
  simp only [Post.then, Post.inBlock, Go.Pv.Fin, Go.Pv.FinG]
  rw [← Option.some.inj h]
  refine ⟨.d (.agg [(.int .i64 (IntKind.i64.wrap (a1.tdiv r1))), (.int .i64 (IntKind.i64.wrap (b1.tdiv r1)))]), ?_, (by first | exact True.intro | rfl), .d (.agg [(.int .i64 (IntKind.i64.wrap (a1.tdiv r1))), (.int .i64 (IntKind.i64.wrap (b1.tdiv r1)))]), ?_, ?_⟩
  · simp only [go_sem, Tryd.results62, List.length_append, List.length_set, List.length_replicate, reduceCtorEq, ↓reduceIte, Nat.reduceAdd, Nat.reduceMul, Nat.reduceLT, Nat.reduceLeDiff, Nat.reduceEqDiff, Nat.reduceBEq, Int.reduceToNat]
  · simp only [go_sem, lenc_nil, List.take_length, List.length_append, List.length_set, List.length_replicate, reduceCtorEq, ↓reduceIte, Nat.reduceAdd, Nat.reduceMul, Nat.reduceLT, Nat.reduceLeDiff, Nat.reduceEqDiff, Nat.reduceBEq, Int.reduceToNat]
  · (first | exact leV_refl _ | (simp only [go_sem, leV, leVL, leD, leDL, lenc_nil, leD_refl, leDL_refl, lstD_le, reduceCtorEq, ↓reduceIte, Nat.reduceAdd, Nat.reduceMul, Nat.reduceLT, Nat.reduceLeDiff, Nat.reduceEqDiff, Nat.reduceBEq, Int.reduceToNat]; done))

end Go.Pv.Tryd

namespace Go.Pv.Tryd
open Go.Proofs Go.Pv

theorem m_rate_times_ok (a1 : Ratio) (b1 : Ratio) (r : Ratio) (h : m_rate_times a1 b1 = some r) : PureFn Tryd.prog G 59 [.d (.agg [(.int .i64 a1.Num), (.int .i64 a1.Den)]), .d (.agg [(.int .i64 b1.Num), (.int .i64 b1.Den)])] (.d (.agg [(.int .i64 r.Num), (.int .i64 r.Den)])) := by
  unfold m_rate_times at h
  refine PureFn.intro2 Tryd.func59 (by rfl) (by rw [Tryd.ntmps59]; simp) ?_
  rw [Tryd.ntmps59]
  simp only [argEnv, reduceCtorEq, ↓reduceIte, Nat.reduceAdd, Nat.reduceMul, Nat.reduceLT, Nat.reduceLeDiff, Nat.reduceEqDiff, Nat.reduceBEq, Int.reduceToNat]
  refine AWp.seq fun K_1 hK_1 => AWp.reg ?_
  iterate 3 (refine AOps.consU fun K' hK' => ?_; simp (disch := omega) only [go_sem, reduceCtorEq, ↓reduceIte, Nat.reduceAdd, Nat.reduceMul, Nat.reduceLT, Nat.reduceLeDiff, Nat.reduceEqDiff, Nat.reduceBEq, Int.reduceToNat]; refine hK' _ ?_; clear hK' K')
  refine AOps.nil ?_
  simp only [Post.then]
  refine hK_1 _ ?_
  clear hK_1 K_1
  refine AWp.seq fun K_2 hK_2 => AWp.draw mo [] (by trivial) ?_
  iterate 4 (refine DOps.consU fun K' hK' => ?_; simp (disch := omega) only [go_sem, reduceCtorEq, ↓reduceIte, Nat.reduceAdd, Nat.reduceMul, Nat.reduceLT, Nat.reduceLeDiff, Nat.reduceEqDiff, Nat.reduceBEq, Int.reduceToNat]; refine hK' _ _ ?_; clear hK' K'; simp only [List.nil_append, List.cons_append])
  obtain ⟨r1, hx_3, h⟩ := bind_some h
  refine DOps.consC fun K' hK' => ?_; simp (disch := omega) only [go_sem, reduceCtorEq, ↓reduceIte, Nat.reduceAdd, Nat.reduceMul, Nat.reduceLT, Nat.reduceLeDiff, Nat.reduceEqDiff, Nat.reduceBEq, Int.reduceToNat]; refine OpX.call (by rfl) (by rfl) (by kernel_rfl) (m_rate_gcd_ok a1.Num b1.Den _ hx_3) (by exact ⟨rfl, rfl, trivial⟩) (by simp only [go_sem, reduceCtorEq, ↓reduceIte, Nat.reduceAdd, Nat.reduceMul, Nat.reduceLT, Nat.reduceLeDiff, Nat.reduceEqDiff, Nat.reduceBEq, Int.reduceToNat]) (by simp only [go_sem]) (by simp only [go_sem, or_true, true_or, reduceCtorEq, ↓reduceIte, Nat.reduceAdd, Nat.reduceMul, Nat.reduceLT, Nat.reduceLeDiff, Nat.reduceEqDiff, Nat.reduceBEq, Int.reduceToNat]) ?_; simp only [go_sem, reduceCtorEq, ↓reduceIte, Nat.reduceAdd, Nat.reduceMul, Nat.reduceLT, Nat.reduceLeDiff, Nat.reduceEqDiff, Nat.reduceBEq, Int.reduceToNat]; refine hK' _ _ ?_; clear hK' K'; simp only [List.nil_append, List.cons_append]
  iterate 4 (refine DOps.consU fun K' hK' => ?_; simp (disch := omega) only [go_sem, reduceCtorEq, ↓reduceIte, Nat.reduceAdd, Nat.reduceMul, Nat.reduceLT, Nat.reduceLeDiff, Nat.reduceEqDiff, Nat.reduceBEq, Int.reduceToNat]; refine hK' _ _ ?_; clear hK' K'; simp only [List.nil_append, List.cons_append])
  obtain ⟨r2, hx_4, h⟩ := bind_some h
  refine DOps.consC fun K' hK' => ?_; simp (disch := omega) only [go_sem, reduceCtorEq, ↓reduceIte, Nat.reduceAdd, Nat.reduceMul, Nat.reduceLT, Nat.reduceLeDiff, Nat.reduceEqDiff, Nat.reduceBEq, Int.reduceToNat]; refine OpX.call (by rfl) (by rfl) (by kernel_rfl) (m_rate_gcd_ok b1.Num a1.Den _ hx_4) (by exact ⟨rfl, rfl, trivial⟩) (by simp only [go_sem, reduceCtorEq, ↓reduceIte, Nat.reduceAdd, Nat.reduceMul, Nat.reduceLT, Nat.reduceLeDiff, Nat.reduceEqDiff, Nat.reduceBEq, Int.reduceToNat]) (by simp only [go_sem]) (by simp only [go_sem, or_true, true_or, reduceCtorEq, ↓reduceIte, Nat.reduceAdd, Nat.reduceMul, Nat.reduceLT, Nat.reduceLeDiff, Nat.reduceEqDiff, Nat.reduceBEq, Int.reduceToNat]) ?_; simp only [go_sem, reduceCtorEq, ↓reduceIte, Nat.reduceAdd, Nat.reduceMul, Nat.reduceLT, Nat.reduceLeDiff, Nat.reduceEqDiff, Nat.reduceBEq, Int.reduceToNat]; refine hK' _ _ ?_; clear hK' K'; simp only [List.nil_append, List.cons_append]
  iterate 2 (refine DOps.consU fun K' hK' => ?_; simp (disch := omega) only [go_sem, reduceCtorEq, ↓reduceIte, Nat.reduceAdd, Nat.reduceMul, Nat.reduceLT, Nat.reduceLeDiff, Nat.reduceEqDiff, Nat.reduceBEq, Int.reduceToNat]; refine hK' _ _ ?_; clear hK' K'; simp only [List.nil_append, List.cons_append])
  refine DOps.nil (by kernel_rfl) ?_
  simp only [Post.then]
  refine hK_2 _ ?_
  clear hK_2 K_2
  refine AWp.seq fun K_5 hK_5 => AWp.draw mo [] (by trivial) ?_
  obtain ⟨hg_6, h⟩ := guardO_some h
  obtain ⟨hg_7, h⟩ := guardO_some h
  obtain ⟨hg_8, h⟩ := guardO_some h
  obtain ⟨hg_9, h⟩ := guardO_some h
  iterate 20 (refine DOps.consU fun K' hK' => ?_; simp (disch := omega) only [go_sem, reduceCtorEq, ↓reduceIte, Nat.reduceAdd, Nat.reduceMul, Nat.reduceLT, Nat.reduceLeDiff, Nat.reduceEqDiff, Nat.reduceBEq, Int.reduceToNat]; refine hK' _ _ ?_; clear hK' K'; simp only [List.nil_append, List.cons_append])
  refine DOps.nil (by kernel_rfl) ?_
  simp only [Post.then]
  refine hK_5 _ ?_
  clear hK_5 K_5
  refine AWp.ret ?_
  simp only [Post.then, Post.inBlock, Go.Pv.Fin, Go.Pv.FinG]
  rw [← Option.some.inj h]
  refine ⟨.d (.agg [(.int .i64 (IntKind.i64.wrap ((IntKind.i64.wrap (a1.Num.tdiv r1)) * (IntKind.i64.wrap (b1.Num.tdiv r2))))), (.int .i64 (IntKind.i64.wrap ((IntKind.i64.wrap (a1.Den.tdiv r2)) * (IntKind.i64.wrap (b1.Den.tdiv r1)))))]), ?_, (by first | exact True.intro | rfl), .d (.agg [(.int .i64 (IntKind.i64.wrap ((IntKind.i64.wrap (a1.Num.tdiv r1)) * (IntKind.i64.wrap (b1.Num.tdiv r2))))), (.int .i64 (IntKind.i64.wrap ((IntKind.i64.wrap (a1.Den.tdiv r2)) * (IntKind.i64.wrap (b1.Den.tdiv r1)))))]), ?_, ?_⟩
  · simp only [go_sem, Tryd.results59, List.length_append, List.length_set, List.length_replicate, reduceCtorEq, ↓reduceIte, Nat.reduceAdd, Nat.reduceMul, Nat.reduceLT, Nat.reduceLeDiff, Nat.reduceEqDiff, Nat.reduceBEq, Int.reduceToNat]
  · simp only [go_sem, lenc_nil, List.take_length, List.length_append, List.length_set, List.length_replicate, reduceCtorEq, ↓reduceIte, Nat.reduceAdd, Nat.reduceMul, Nat.reduceLT, Nat.reduceLeDiff, Nat.reduceEqDiff, Nat.reduceBEq, Int.reduceToNat]
  · (first | exact leV_refl _ | (simp only [go_sem, leV, leVL, leD, leDL, lenc_nil, leD_refl, leDL_refl, lstD_le, reduceCtorEq, ↓reduceIte, Nat.reduceAdd, Nat.reduceMul, Nat.reduceLT, Nat.reduceLeDiff, Nat.reduceEqDiff, Nat.reduceBEq, Int.reduceToNat]; done))

end Go.Pv.Tryd



namespace Go.Pv.Tryd
open Go.Proofs Go.Pv

theorem clone_fn (l : List Int) (hl : l.length ≤ 1000) : RowFn Tryd.prog G 96 [.d (lstD 1 (lenc (PD.int .i64) l))] 3 1 (lenc (PD.int .i64) l) := by
  refine Fn.intro Tryd.func96 (by rfl) (by rw [Tryd.ntmps96]; simp) ?_
  rw [Tryd.ntmps96]
  simp only [argEnv, ↓reduceIte]
  refine AWp.seq fun K hK => AWp.reg ?_
  iterate 1 (refine AOps.consU fun K' hK' => ?_; simp (disch := omega) only [go_sem, reduceCtorEq, ↓reduceIte, Nat.reduceAdd, Nat.reduceMul, Nat.reduceLT, Nat.reduceLeDiff, Nat.reduceEqDiff, Nat.reduceBEq, Int.reduceToNat]; refine hK' _ ?_; clear hK' K')
  refine AOps.nil ?_
  simp only [Post.then]
  refine hK _ ?_; clear hK K
  refine AWp.seq fun K hK => ?_
  refine AWp.seq fun K2 hK2 => AWp.reg ?_
  iterate 2 (refine AOps.consU fun K' hK' => ?_; simp (disch := omega) only [go_sem, reduceCtorEq, ↓reduceIte, Nat.reduceAdd, Nat.reduceMul, Nat.reduceLT, Nat.reduceLeDiff, Nat.reduceEqDiff, Nat.reduceBEq, Int.reduceToNat]; refine hK' _ ?_; clear hK' K')
  refine AOps.nil ?_
  simp only [Post.then]
  refine hK2 _ ?_; clear hK2 K2
  refine AWp.cond (b := l.isEmpty) (by rfl) (fun hb => ?_) (fun hb => ?_)
  · have hl0 : l = [] := by simpa using hb
    subst hl0
    refine AWp.seq fun K2 hK2 => AWp.reg ?_
    iterate 1 (refine AOps.consU fun K' hK' => ?_; simp (disch := omega) only [go_sem, reduceCtorEq, ↓reduceIte, Nat.reduceAdd, Nat.reduceMul, Nat.reduceLT, Nat.reduceLeDiff, Nat.reduceEqDiff, Nat.reduceBEq, Int.reduceToNat]; refine hK' _ ?_; clear hK' K')
    refine AOps.nil ?_
    simp only [Post.then]
    refine hK2 _ ?_; clear hK2 K2
    refine AWp.sub (Sub.void 2 3 1 1000 (by rfl) (by rfl) (by omega) (by omega)) ?_
    refine AWp.ret ?_
    simp only [Post.then, Post.inBlock, Go.Pv.Fin, Go.Pv.FinG]
    refine ⟨.slc 1000 0 0, ?_, by first | exact True.intro | rfl, by first | exact True.intro | rfl, by first | exact True.intro | rfl⟩
    simp only [go_sem, Tryd.results96, reduceCtorEq, ↓reduceIte, Nat.reduceAdd, Nat.reduceMul, Nat.reduceLT, Nat.reduceLeDiff, Nat.reduceEqDiff, Nat.reduceBEq, Int.reduceToNat]
  · refine AWp.skip ?_
    simp only [Post.then, Post.inBlock]
    refine hK _ ?_; clear hK K
    refine AWp.seq fun K hK => AWp.reg ?_
    refine AOps.consU fun K' hK' => ?_; simp (disch := omega) only [go_sem, reduceCtorEq, ↓reduceIte, Nat.reduceAdd, Nat.reduceMul, Nat.reduceLT, Nat.reduceLeDiff, Nat.reduceEqDiff, Nat.reduceBEq, Int.reduceToNat]; refine hK' _ ?_; clear hK' K'
    refine AOps.consU fun K' hK' => ?_; simp (disch := omega) only [go_sem, reduceCtorEq, ↓reduceIte, Nat.reduceAdd, Nat.reduceMul, Nat.reduceLT, Nat.reduceLeDiff, Nat.reduceEqDiff, Nat.reduceBEq, Int.reduceToNat]; refine hK' _ ?_; clear hK' K'
    have e : lstD 1 (lenc (PD.int .i64) l) = .imm 1 (lenc (PD.int .i64) l) := by
      cases l with
      | nil => simp at hb
      | cons x l => rfl
    rw [e]
    iterate 2 (refine AOps.consU fun K' hK' => ?_; simp (disch := omega) only [go_sem, reduceCtorEq, ↓reduceIte, Nat.reduceAdd, Nat.reduceMul, Nat.reduceLT, Nat.reduceLeDiff, Nat.reduceEqDiff, Nat.reduceBEq, Int.reduceToNat]; refine hK' _ ?_; clear hK' K')
    refine AOps.nil ?_
    simp only [Post.then]
    refine hK _ ?_; clear hK K
    refine AWp.ret ?_
    simp only [Post.then, Post.inBlock, Go.Pv.Fin, Go.Pv.FinG]
    refine ⟨.slc 1000 0 l.length, ?_, by first | exact True.intro | rfl, ?_, by first | exact True.intro | rfl⟩
    · simp only [go_sem, Tryd.results96, reduceCtorEq, ↓reduceIte, Nat.reduceAdd, Nat.reduceMul, Nat.reduceLT, Nat.reduceLeDiff, Nat.reduceEqDiff, Nat.reduceBEq, Int.reduceToNat]
    · rw [lenc_length]

def capsOn (m : Market) (frm length : Int) (rounds : Bool) : List PV := [.dptr 1 [.int .i64 length] 0 0, .dptr 1 [.int .i64 frm] 0 0, .dptr 1 [.bool rounds] 0 0, .ptr 1 0 0, .ptr 2 0 0, .dptr 2 [Market.pd m] 0 0, .ptr 4 0 0]
/-- What the walk's closures share: yield, seen, the closure itself. -/
def heapOn (m : Market) (frm length : Int) (rounds : Bool) (l n : Nat) (s : List Bool) : Heap :=
  [(1, ⟨127, 1, [.d (.fn (.yield l))]⟩), (2, ⟨128, 1, [.slc 3 0 n]⟩), (3, ⟨4, 1, dl (lenc PD.bool s)⟩), (4, ⟨127, 1, [.func (.func 94) (capsOn m frm length rounds)]⟩)]

theorem reset_fn (n : Nat) (s : List Bool) (w : Walk) (g : Gh) (hg : g.isSome = true) (hn : s.length = n) (h0 : 0 ≤ w.to ∧ w.to < n) :
    FnD Tryd.prog G 95 [.ptr 1 0 0, .ptr 2 0 0] [(1, ⟨128, 1, [.slc 3 0 n]⟩), (3, ⟨4, 1, dl (lenc PD.bool s)⟩), (2, ⟨83, 4, [.d w.pd]⟩)] g
      fun _ H' g' => H' = [(1, ⟨128, 1, [.slc 3 0 n]⟩), (3, ⟨4, 1, dl (lenc PD.bool (s.set w.to.toNat false))⟩), (2, ⟨83, 4, [.d w.pd]⟩)] ∧ g' = g := by
  refine FnD.intro Tryd.func95 (by rfl) (by rw [Tryd.ntmps95]; simp) ?_
  rw [Tryd.ntmps95]
  simp only [argEnv, ↓reduceIte, Nat.reduceAdd]
  have h1 : w.to.toNat < s.length := by omega
  have h2 : s[w.to.toNat]? = some s[w.to.toNat] := List.getElem?_eq_getElem h1
  refine AWp.reg ?_
  iterate 5 (refine AOps.consU fun K' hK' => ?_; simp (disch := omega) only [go_sem, h2, reduceCtorEq, ↓reduceIte, Nat.reduceAdd, Nat.reduceMul, Nat.reduceLT, Nat.reduceLeDiff, Nat.reduceEqDiff, Nat.reduceBEq, Int.reduceToNat]; refine hK' _ ?_; clear hK' K')
  refine AOps.nil ?_
  show FinD _ _ _ _ _ _
  simp only [FinD]
  refine ⟨.tuple [], ?_, by first | exact True.intro | rfl, hg, by first | exact True.intro | rfl, by first | exact True.intro | rfl⟩
  simp only [go_sem, Tryd.results95, reduceCtorEq, ↓reduceIte, Nat.reduceAdd, Nat.reduceMul, Nat.reduceLT, Nat.reduceLeDiff, Nat.reduceEqDiff, Nat.reduceBEq, Int.reduceToNat]

end Go.Pv.Tryd

set_option linter.unusedSimpArgs false
set_option linter.unusedVariables false
namespace Go.Pv.Tryd
open Go.Proofs Go.Pv

def OnPost (ys : List PD) (H : Heap) (l : Nat) (all xs : List PD) : PV → Heap → Gh → Prop := fun p H' g' =>
  H' = H ∧ ((p = .d (.bool true) ∧ g' = some (l, all, xs ++ ys, true)) ∨ ∃ part rest, ys = part ++ rest ∧ p = .d (.bool false) ∧ g' = some (l, all, xs ++ part, false))

def OnPost0 (ys : List PD) (H : Heap) (l : Nat) (all xs : List PD) : PV → Heap → Gh → Prop := fun p H' g' =>
  heapLe H H' ∧ ((p = .d (.bool true) ∧ g' = some (l, all, xs ++ ys, true)) ∨ ∃ part rest, ys = part ++ rest ∧ p = .d (.bool false) ∧ g' = some (l, all, xs ++ part, false))

theorem heapOn_refs (m : Market) (frm length : Int) (rounds : Bool) (l n : Nat) (s : List Bool) : heapRefs (heapOn m frm length rounds l n s) (heapOn m frm length rounds l n s) := by
  simp only [heapOn, capsOn, go_sem, reduceCtorEq, ↓reduceIte, Nat.reduceAdd, Nat.reduceMul, Nat.reduceLT, Nat.reduceLeDiff, Nat.reduceEqDiff, Nat.reduceBEq, Int.reduceToNat]

theorem on_less {f : FuncId} {args : List PV} {g : Gh} {m : Market} {frm length : Int} {rounds : Bool} {l n : Nat} {s : List Bool} {all xs ys : List PD} {H0 : Heap} (h : FnG Tryd.prog G f args H0 g (OnPost0 ys (heapOn m frm length rounds l n s) l all xs)) :
    FnG Tryd.prog G f args H0 g (OnPost ys (heapOn m frm length rounds l n s) l all xs) := by
  refine h.less fun p H' g' h => ⟨_, h.1, heapOn_refs .., ?_, rfl, h.2⟩
  rcases h.2 with ⟨rfl, _⟩ | ⟨_, _, _, rfl, _⟩ <;> exact trivial

/-- What a walk on its way is. -/
structure OnOk (m : Market) (length : Int) (w : Walk) (s : List Bool) (k : Nat) : Prop where
  k1 : w.list.length + k = length.toNat + 1
  k2 : 1 ≤ k
  len : s.length = m.n.toNat
  to1 : 0 ≤ w.to
  to2 : w.to < m.n
  num1 : 1 ≤ w.rate.Num
  num2 : w.rate.Num ≤ 50 ^ w.list.length
  den1 : 1 ≤ w.rate.Den
  den2 : w.rate.Den ≤ 50 ^ w.list.length
  free : s[w.to.toNat]? = some false ∨ (w.list.length : Int) = length

theorem on_end (m : Market) (frm length : Int) (rounds : Bool) (l : Nat) (all : List PD) (k : Nat) (w : Walk) (s : List Bool) (xs : List PD) (hk : OnOk m length w s (k + 1)) (he : (w.list.length : Int) = length)
    (hall : xs ++ lenc Walk.pd (walkOn m.offers frm length rounds (k + 1) w s) <+: all) :
    FnG Tryd.prog G 94 (.d w.pd :: capsOn m frm length rounds) (heapOn m frm length rounds l m.n.toNat s) (some (l, all, xs, true)) (OnPost (lenc Walk.pd (walkOn m.offers frm length rounds (k + 1) w s)) (heapOn m frm length rounds l m.n.toNat s) l all xs) := by
  have hw : walkOn m.offers frm length rounds (k + 1) w s = if (!(decide (w.to = frm) == rounds)) = true then [] else [w] := by rw [walkOn, if_pos he]
  rw [hw] at hall ⊢
  rcases Bool.eq_false_or_eq_true (!(decide (w.to = frm) == rounds)) with hg | hg
  · rw [if_pos hg] at hall ⊢
    refine on_less ?_
    refine FnG.introD Tryd.func94 (by rfl) (by rw [Tryd.ntmps94]; simp [capsOn]) ?_
    rw [Tryd.ntmps94]
    simp only [argEnv, capsOn, heapOn, Nat.reduceAdd]
    refine AWp.seq fun K hK => AWp.reg ?_
    iterate 2 (refine AOps.consU fun K' hK' => ?_; simp (disch := omega) only [go_sem, reduceCtorEq, ↓reduceIte, Nat.reduceAdd, Nat.reduceMul, Nat.reduceLT, Nat.reduceLeDiff, Nat.reduceEqDiff, Nat.reduceBEq, Int.reduceToNat]; refine hK' _ ?_; clear hK' K')
    refine AOps.nil ?_
    simp only [Post.then]
    refine hK _ ?_; clear hK K
    refine AWp.seq fun K hK => ?_
    refine AWp.seq fun K2 hK2 => AWp.reg ?_
    iterate 5 (refine AOps.consU fun K' hK' => ?_; simp (disch := omega) only [go_sem, reduceCtorEq, ↓reduceIte, Nat.reduceAdd, Nat.reduceMul, Nat.reduceLT, Nat.reduceLeDiff, Nat.reduceEqDiff, Nat.reduceBEq, Int.reduceToNat]; refine hK' _ ?_; clear hK' K')
    refine AOps.nil ?_
    simp only [Post.then]
    refine hK2 _ ?_; clear hK2 K2
    refine AWp.cond (b := decide ((w.list.length : Int) = length)) (by rfl) (fun hb => ?_) (fun hb => ?_)
    · refine AWp.seq fun K2 hK2 => AWp.reg ?_
      iterate 7 (refine AOps.consU fun K' hK' => ?_; simp (disch := omega) only [go_sem, reduceCtorEq, ↓reduceIte, Nat.reduceAdd, Nat.reduceMul, Nat.reduceLT, Nat.reduceLeDiff, Nat.reduceEqDiff, Nat.reduceBEq, Int.reduceToNat]; refine hK' _ ?_; clear hK' K')
      rw [hg]
      iterate 5 (refine AOps.consU fun K' hK' => ?_; simp (disch := omega) only [go_sem, reduceCtorEq, ↓reduceIte, Nat.reduceAdd, Nat.reduceMul, Nat.reduceLT, Nat.reduceLeDiff, Nat.reduceEqDiff, Nat.reduceBEq, Int.reduceToNat]; refine hK' _ ?_; clear hK' K')
      refine AOps.nil ?_
      simp only [Post.then]
      refine hK2 _ ?_; clear hK2 K2
      refine AWp.ret ?_
      simp only [Post.then, Fin1]
      refine .inl ⟨.d (.bool true), ?_, by first | exact True.intro | rfl, ⟨rfl, rfl, rfl, rfl, trivial⟩, .inl ⟨rfl, ?_⟩⟩
      · simp only [go_sem, Tryd.results94, reduceCtorEq, ↓reduceIte, Nat.reduceAdd, Nat.reduceMul, Nat.reduceLT, Nat.reduceLeDiff, Nat.reduceEqDiff, Nat.reduceBEq, Int.reduceToNat]
      · show _ = some (l, all, xs ++ lenc Walk.pd [], true)
        simp [lenc]
    · exact absurd he (by simpa using hb)
  · rw [if_neg (by simp [hg])] at hall ⊢
    refine on_less ?_
    refine FnG.introD Tryd.func94 (by rfl) (by rw [Tryd.ntmps94]; simp [capsOn]) ?_
    rw [Tryd.ntmps94]
    simp only [argEnv, capsOn, heapOn, Nat.reduceAdd]
    refine AWp.seq fun K hK => AWp.reg ?_
    iterate 2 (refine AOps.consU fun K' hK' => ?_; simp (disch := omega) only [go_sem, reduceCtorEq, ↓reduceIte, Nat.reduceAdd, Nat.reduceMul, Nat.reduceLT, Nat.reduceLeDiff, Nat.reduceEqDiff, Nat.reduceBEq, Int.reduceToNat]; refine hK' _ ?_; clear hK' K')
    refine AOps.nil ?_
    simp only [Post.then]
    refine hK _ ?_; clear hK K
    refine AWp.seq fun K hK => ?_
    refine AWp.seq fun K2 hK2 => AWp.reg ?_
    iterate 5 (refine AOps.consU fun K' hK' => ?_; simp (disch := omega) only [go_sem, reduceCtorEq, ↓reduceIte, Nat.reduceAdd, Nat.reduceMul, Nat.reduceLT, Nat.reduceLeDiff, Nat.reduceEqDiff, Nat.reduceBEq, Int.reduceToNat]; refine hK' _ ?_; clear hK' K')
    refine AOps.nil ?_
    simp only [Post.then]
    refine hK2 _ ?_; clear hK2 K2
    refine AWp.cond (b := decide ((w.list.length : Int) = length)) (by rfl) (fun hb => ?_) (fun hb => ?_)
    · refine AWp.seq fun K2 hK2 => AWp.reg ?_
      iterate 7 (refine AOps.consU fun K' hK' => ?_; simp (disch := omega) only [go_sem, reduceCtorEq, ↓reduceIte, Nat.reduceAdd, Nat.reduceMul, Nat.reduceLT, Nat.reduceLeDiff, Nat.reduceEqDiff, Nat.reduceBEq, Int.reduceToNat]; refine hK' _ ?_; clear hK' K')
      rw [hg]
      iterate 2 (refine AOps.consU fun K' hK' => ?_; simp (disch := omega) only [go_sem, reduceCtorEq, ↓reduceIte, Nat.reduceAdd, Nat.reduceMul, Nat.reduceLT, Nat.reduceLeDiff, Nat.reduceEqDiff, Nat.reduceBEq, Int.reduceToNat]; refine hK' _ ?_; clear hK' K')
      refine AOps.consC (by simp only [go_sem, reduceCtorEq, ↓reduceIte, Nat.reduceAdd, Nat.reduceMul, Nat.reduceLT, Nat.reduceLeDiff, Nat.reduceEqDiff, Nat.reduceBEq, Int.reduceToNat]) fun K' hK' => ?_
      simp (disch := omega) only [go_sem, reduceCtorEq, ↓reduceIte, Nat.reduceAdd, Nat.reduceMul, Nat.reduceLT, Nat.reduceLeDiff, Nat.reduceEqDiff, Nat.reduceBEq, Int.reduceToNat]
      refine OpT.yield (x := Walk.pd w) (by rfl) (by rfl) (by rfl) (by rfl) (by rfl) (by rfl) (by simpa [lenc] using hall) (by simp only [go_sem, reduceCtorEq, ↓reduceIte, Nat.reduceAdd, Nat.reduceMul, Nat.reduceLT, Nat.reduceLeDiff, Nat.reduceEqDiff, Nat.reduceBEq, Int.reduceToNat]) fun b => ?_
      simp only [go_sem, reduceCtorEq, ↓reduceIte, Nat.reduceAdd, Nat.reduceMul, Nat.reduceLT, Nat.reduceLeDiff, Nat.reduceEqDiff, Nat.reduceBEq, Int.reduceToNat]; refine hK' _ ?_; clear hK' K'
      iterate 2 (refine AOps.consU fun K' hK' => ?_; simp (disch := omega) only [go_sem, reduceCtorEq, ↓reduceIte, Nat.reduceAdd, Nat.reduceMul, Nat.reduceLT, Nat.reduceLeDiff, Nat.reduceEqDiff, Nat.reduceBEq, Int.reduceToNat]; refine hK' _ ?_; clear hK' K')
      refine AOps.nil ?_
      simp only [Post.then]
      refine hK2 _ ?_; clear hK2 K2
      refine AWp.ret ?_
      simp only [Post.then, Fin1]
      cases b with
      | true =>
        refine .inl ⟨.d (.bool true), ?_, by first | exact True.intro | rfl, ⟨rfl, rfl, rfl, rfl, trivial⟩, .inl ⟨rfl, ?_⟩⟩
        · simp only [go_sem, Tryd.results94, reduceCtorEq, ↓reduceIte, Nat.reduceAdd, Nat.reduceMul, Nat.reduceLT, Nat.reduceLeDiff, Nat.reduceEqDiff, Nat.reduceBEq, Int.reduceToNat]
        · rfl
      | false =>
        refine .inl ⟨.d (.bool false), ?_, by first | exact True.intro | rfl, ⟨rfl, rfl, rfl, rfl, trivial⟩, .inr ⟨lenc Walk.pd [w], [], by simp, rfl, ?_⟩⟩
        · simp only [go_sem, Tryd.results94, reduceCtorEq, ↓reduceIte, Nat.reduceAdd, Nat.reduceMul, Nat.reduceLT, Nat.reduceLeDiff, Nat.reduceEqDiff, Nat.reduceBEq, Int.reduceToNat]
        · rfl
    · exact absurd he (by simpa using hb)

end Go.Pv.Tryd

set_option linter.unusedSimpArgs false
set_option linter.unusedVariables false
namespace Go.Pv.Tryd
open Go.Proofs Go.Pv

def heapIn (m : Market) (frm length : Int) (rounds : Bool) (l n : Nat) (s : List Bool) (w : Walk) : Heap :=
  [(1, ⟨127, 1, [.d (.fn (.yield l))]⟩), (2, ⟨128, 1, [.slc 3 0 n]⟩), (3, ⟨4, 1, dl (lenc PD.bool s)⟩), (4, ⟨127, 1, [.func (.func 94) (capsOn m frm length rounds)]⟩), (1000, ⟨83, 4, [.d w.pd]⟩)]

theorem on_leave {env : List (Nat × PV)} {c : Bool} (h9 : eget env 9 = .d (.bool c)) {m : Market} {frm length : Int} {rounds : Bool} {l : Nat} {s : List Bool} {w : Walk} {g : Gh} (hg : g.isSome = true) (hs : s.length = m.n.toNat) (h0 : 0 ≤ w.to ∧ w.to < m.n)
    (hf : s[w.to.toNat]? = some false) {R : PV → Heap → Gh → Prop} (hR : R (.d (.bool c)) (heapIn m frm length rounds l m.n.toNat s w) g) :
    Fin1 Tryd.prog G Tryd.f94 R .ret ⟨env, heapIn m frm length rounds l m.n.toNat (s.set w.to.toNat true) w, [.func (.func 95) [.ptr 2 0 0, .ptr 1000 0 0]], g⟩ := by
  have hset : (s.set w.to.toNat true).set w.to.toNat false = s := by
    rw [List.set_set]
    obtain ⟨h1, h2⟩ := List.getElem?_eq_some_iff.1 hf
    rw [← h2, List.set_getElem_self]
  have hres : ∀ (H : Heap) (D : List PV) (g : Gh), resV Tryd.prog G Tryd.f94.results.toList ⟨env, H, D, g⟩ = some (.d (.bool c)) := fun H D g => by
    simp only [go_sem, Tryd.results94, h9, reduceCtorEq, ↓reduceIte, Nat.reduceAdd, Nat.reduceMul, Nat.reduceLT, Nat.reduceLeDiff, Nat.reduceEqDiff, Nat.reduceBEq, Int.reduceToNat]
  simp only [Fin1]
  refine .inr ⟨_, 95, _, [.ptr 1 0 0, .ptr 2 0 0], [(1, ⟨128, 1, [.slc 3 0 m.n.toNat]⟩), (3, ⟨4, 1, dl (lenc PD.bool (s.set w.to.toNat true))⟩), (2, ⟨83, 4, [.d w.pd]⟩)], renOf [(1, 2), (3, 3), (2, 1000)], _, rfl, hg, rfl, by kernel_rfl, Hand.of ?_ ?_, ?_,
    reset_fn m.n.toNat (s.set w.to.toNat true) w g hg (by simpa using hs) ⟨h0.1, by omega⟩, ?_⟩
  · simp only [go_sem, heapIn, Row.ren, renL, PV.ren, dl_ren, Walk.pd, reduceCtorEq, ↓reduceIte, Nat.reduceAdd, Nat.reduceMul, Nat.reduceLT, Nat.reduceLeDiff, Nat.reduceEqDiff, Nat.reduceBEq, Int.reduceToNat]
  · simp only [go_sem, reduceCtorEq, ↓reduceIte, Nat.reduceAdd, Nat.reduceMul, Nat.reduceLT, Nat.reduceLeDiff, Nat.reduceEqDiff, Nat.reduceBEq, Int.reduceToNat]
  · simp only [go_sem, handsOk, handOk, reduceCtorEq, ↓reduceIte, Nat.reduceAdd, Nat.reduceMul, Nat.reduceLT, Nat.reduceLeDiff, Nat.reduceEqDiff, Nat.reduceBEq, Int.reduceToNat]
  · rintro p H' g' ⟨rfl, rfl⟩
    refine ⟨renOf [(1, 2), (3, 3), (2, 1000)], Back.of ?_ ?_ ?_, .d (.bool c), hres _ _ _, ?_⟩
    · simp only [go_sem, Row.ren, renL, PV.ren, dl_ren, dl_length, lenc_length, List.length_set, dl_clean, clean, cleanL, Walk.pd, reduceCtorEq, ↓reduceIte, Nat.reduceAdd, Nat.reduceMul, Nat.reduceLT, Nat.reduceLeDiff, Nat.reduceEqDiff, Nat.reduceBEq, Int.reduceToNat]
    · simp only [go_sem, reduceCtorEq, ↓reduceIte, Nat.reduceAdd, Nat.reduceMul, Nat.reduceLT, Nat.reduceLeDiff, Nat.reduceEqDiff, Nat.reduceBEq, Int.reduceToNat]
    · simp only [go_sem, reduceCtorEq, ↓reduceIte, Nat.reduceAdd, Nat.reduceMul, Nat.reduceLT, Nat.reduceLeDiff, Nat.reduceEqDiff, Nat.reduceBEq, Int.reduceToNat]
    · have e : hmerge (renOf [(1, 2), (3, 3), (2, 1000)]) [(1, ⟨128, 1, [.slc 3 0 m.n.toNat]⟩), (3, ⟨4, 1, dl (lenc PD.bool ((s.set w.to.toNat true).set w.to.toNat false))⟩), (2, ⟨83, 4, [.d w.pd]⟩)] (heapIn m frm length rounds l m.n.toNat (s.set w.to.toNat true) w) = heapIn m frm length rounds l m.n.toNat s w := by
        rw [hset]
        simp only [go_sem, hmerge, heapIn, Row.ren, renL, PV.ren, dl_ren, reduceCtorEq, ↓reduceIte, Nat.reduceAdd, Nat.reduceMul, Nat.reduceLT, Nat.reduceLeDiff, Nat.reduceEqDiff, Nat.reduceBEq, Int.reduceToNat]
      have e2 : ghBack ⟨env, heapIn m frm length rounds l m.n.toNat (s.set w.to.toNat true) w, [.func (.func 95) [.ptr 2 0 0, .ptr 1000 0 0]], g'⟩ g' g' = g' := by cases g' <;> rfl
      rw [e]
      show R _ _ (ghBack _ g' g')
      rw [e2]
      exact hR

end Go.Pv.Tryd

set_option linter.unusedSimpArgs false
set_option linter.unusedVariables false
namespace Go.Pv.Tryd
open Go.Proofs Go.Pv

/-- What an offer adds. -/
def addOf (offers : List Offer) (frm length : Int) (rounds : Bool) (k : Nat) (w : Walk) (s : List Bool) (oi : Offer × Nat) : List Walk :=
  if walkSkip frm length rounds w (s.set w.to.toNat true) oi.1 = true then []
  else walkOn offers frm length rounds k ⟨w.list ++ [(oi.2 : Int)], timesN w.rate (ratioN oi.1.Num oi.1.Den), oi.1.To⟩ (s.set w.to.toNat true)

def ysOf (offers : List Offer) (frm length : Int) (rounds : Bool) (k : Nat) (w : Walk) (s : List Bool) (i : Nat) : List Walk := (offers.zipIdx.take i).flatMap (addOf offers frm length rounds k w s)

theorem ysOf_zero (offers : List Offer) (frm length : Int) (rounds : Bool) (k : Nat) (w : Walk) (s : List Bool) : ysOf offers frm length rounds k w s 0 = [] := rfl

theorem ysOf_succ {offers : List Offer} {frm length : Int} {rounds : Bool} {k : Nat} {w : Walk} {s : List Bool} {i : Nat} {o : Offer} (h : offers[i]? = some o) :
    ysOf offers frm length rounds k w s (i + 1) = ysOf offers frm length rounds k w s i ++ addOf offers frm length rounds k w s (o, i) := by
  have hz : offers.zipIdx[i]? = some (o, i) := by simp [List.getElem?_zipIdx, h]
  unfold ysOf
  rw [List.take_add_one, hz]
  simp [List.flatMap_append]

theorem ysOf_all (offers : List Offer) (frm length : Int) (rounds : Bool) (k : Nat) (w : Walk) (s : List Bool) : ysOf offers frm length rounds k w s offers.length = offers.zipIdx.flatMap (addOf offers frm length rounds k w s) := by
  unfold ysOf
  rw [List.take_of_length_le (by simp)]

theorem ysOf_pre {offers : List Offer} {frm length : Int} {rounds : Bool} {k : Nat} {w : Walk} {s : List Bool} {i : Nat} : ∃ r, offers.zipIdx.flatMap (addOf offers frm length rounds k w s) = ysOf offers frm length rounds k w s i ++ r := by
  refine ⟨(offers.zipIdx.drop i).flatMap (addOf offers frm length rounds k w s), ?_⟩
  unfold ysOf
  rw [← List.flatMap_append, List.take_append_drop]

/-- The state at the head of the loop over the offers. -/
def headOn (m : Market) (frm length : Int) (rounds : Bool) (l : Nat) (all xs : List PD) (k : Nat) (w : Walk) (s : List Bool) (i : Nat) : St :=
  ⟨[(1, .dptr 1 [.int .i64 length] 0 0), (2, .dptr 1 [.int .i64 frm] 0 0), (3, .dptr 1 [.bool rounds] 0 0), (5, .ptr 2 0 0), (7, .ptr 4 0 0), (8, .ptr 1000 0 0), (35, .d (.imm 4 (lenc Offer.pd m.offers))), (36, .d (.int .i64 m.offers.length)), (37, .d (.int .i64 i))],
   heapIn m frm length rounds l m.n.toNat (s.set w.to.toNat true) w, [.func (.func 95) [.ptr 2 0 0, .ptr 1000 0 0]], some (l, all, xs ++ lenc Walk.pd (ysOf m.offers frm length rounds k w s i), true)⟩

theorem heapIn_refs (m : Market) (frm length : Int) (rounds : Bool) (l n : Nat) (s : List Bool) (w : Walk) : heapRefs (heapIn m frm length rounds l n s w) (heapIn m frm length rounds l n s w) := by
  simp only [heapIn, capsOn, go_sem, reduceCtorEq, ↓reduceIte, Nat.reduceAdd, Nat.reduceMul, Nat.reduceLT, Nat.reduceLeDiff, Nat.reduceEqDiff, Nat.reduceBEq, Int.reduceToNat]

theorem on_step (m : Market) (frm length : Int) (rounds : Bool) (l : Nat) (all : List PD) (hpre : walksPre m frm length rounds = true) (k : Nat) (w : Walk) (s : List Bool) (xs : List PD) (hk : OnOk m length w s (k + 1)) (he : ¬ (w.list.length : Int) = length)
    (ih : ∀ (w' : Walk) (s' : List Bool) (xs' : List PD), OnOk m length w' s' k → xs' ++ lenc Walk.pd (walkOn m.offers frm length rounds k w' s') <+: all →
      FnG Tryd.prog G 94 (.d w'.pd :: capsOn m frm length rounds) (heapOn m frm length rounds l m.n.toNat s') (some (l, all, xs', true)) (OnPost (lenc Walk.pd (walkOn m.offers frm length rounds k w' s')) (heapOn m frm length rounds l m.n.toNat s') l all xs'))
    (hall : xs ++ lenc Walk.pd (walkOn m.offers frm length rounds (k + 1) w s) <+: all) :
    FnG Tryd.prog G 94 (.d w.pd :: capsOn m frm length rounds) (heapOn m frm length rounds l m.n.toNat s) (some (l, all, xs, true)) (OnPost (lenc Walk.pd (walkOn m.offers frm length rounds (k + 1) w s)) (heapOn m frm length rounds l m.n.toNat s) l all xs) := by
  have hw : walkOn m.offers frm length rounds (k + 1) w s = m.offers.zipIdx.flatMap (addOf m.offers frm length rounds k w s) := by rw [walkOn, if_neg he]; rfl
  rw [hw] at hall ⊢
  have hf : s[w.to.toNat]? = some false := hk.free.resolve_right he
  have hto : w.to.toNat < s.length := by rw [hk.len]; have := hk.to1; have := hk.to2; omega
  have hn : s.length = m.n.toNat := hk.len
  have ht1 := hk.to1
  have ht2 := hk.to2
  refine on_less ?_
  refine FnG.introD Tryd.func94 (by rfl) (by rw [Tryd.ntmps94]; simp [capsOn]) ?_
  rw [Tryd.ntmps94]
  simp only [argEnv, capsOn, heapOn, Nat.reduceAdd]
  refine AWp.seq fun K hK => AWp.reg ?_
  iterate 2 (refine AOps.consU fun K' hK' => ?_; simp (disch := omega) only [go_sem, reduceCtorEq, ↓reduceIte, Nat.reduceAdd, Nat.reduceMul, Nat.reduceLT, Nat.reduceLeDiff, Nat.reduceEqDiff, Nat.reduceBEq, Int.reduceToNat]; refine hK' _ ?_; clear hK' K')
  refine AOps.nil ?_
  simp only [Post.then]
  refine hK _ ?_; clear hK K
  refine AWp.seq fun K hK => ?_
  refine AWp.seq fun K2 hK2 => AWp.reg ?_
  iterate 5 (refine AOps.consU fun K' hK' => ?_; simp (disch := omega) only [go_sem, reduceCtorEq, ↓reduceIte, Nat.reduceAdd, Nat.reduceMul, Nat.reduceLT, Nat.reduceLeDiff, Nat.reduceEqDiff, Nat.reduceBEq, Int.reduceToNat]; refine hK' _ ?_; clear hK' K')
  refine AOps.nil ?_
  simp only [Post.then]
  refine hK2 _ ?_; clear hK2 K2
  refine AWp.cond (b := decide ((w.list.length : Int) = length)) (by rfl) (fun hb => ?_) (fun hb => ?_)
  · exact absurd (by simpa using hb) he
  refine AWp.skip ?_
  simp only [Post.then, Post.inBlock]
  refine hK _ ?_; clear hK K
  -- seen
  have hget : s[w.to.toNat]? = some s[w.to.toNat] := List.getElem?_eq_getElem hto
  refine AWp.seq fun K hK => AWp.reg ?_
  iterate 5 (refine AOps.consU fun K' hK' => ?_; simp (disch := omega) only [go_sem, hget, reduceCtorEq, ↓reduceIte, Nat.reduceAdd, Nat.reduceMul, Nat.reduceLT, Nat.reduceLeDiff, Nat.reduceEqDiff, Nat.reduceBEq, Int.reduceToNat]; refine hK' _ ?_; clear hK' K')
  refine AOps.nil ?_
  simp only [Post.then]
  refine hK _ ?_; clear hK K
  -- the deferred call
  refine AWp.seq fun K hK => AWp.reg ?_
  iterate 1 (refine AOps.consU fun K' hK' => ?_; simp (disch := omega) only [go_sem, reduceCtorEq, ↓reduceIte, Nat.reduceAdd, Nat.reduceMul, Nat.reduceLT, Nat.reduceLeDiff, Nat.reduceEqDiff, Nat.reduceBEq, Int.reduceToNat]; refine hK' _ ?_; clear hK' K')
  refine AOps.consC (by simp only [go_sem]) fun K' hK' => ?_
  simp (disch := omega) only [go_sem, reduceCtorEq, ↓reduceIte, Nat.reduceAdd, Nat.reduceMul, Nat.reduceLT, Nat.reduceLeDiff, Nat.reduceEqDiff, Nat.reduceBEq, Int.reduceToNat]
  refine OpT.defer (by rfl) (by rfl) (by rfl) (by rfl) (by simp only [go_sem]) ?_
  simp only [go_sem, reduceCtorEq, ↓reduceIte, Nat.reduceAdd, Nat.reduceMul, Nat.reduceLT, Nat.reduceLeDiff, Nat.reduceEqDiff, Nat.reduceBEq, Int.reduceToNat]; refine hK' _ ?_; clear hK' K'
  refine AOps.nil ?_
  simp only [Post.then]
  refine hK _ ?_; clear hK K
  -- the loop
  refine AWp.seqI (fun _ : Unit => headOn m frm length rounds l all xs k w s m.offers.length) (fun _ => True) ?_ ?_
  rotate_left
  · rintro ⟨⟩ _
    simp only [headOn]
    refine AWp.seq fun K hK => AWp.reg ?_
    iterate 1 (refine AOps.consU fun K' hK' => ?_; simp (disch := omega) only [go_sem, reduceCtorEq, ↓reduceIte, Nat.reduceAdd, Nat.reduceMul, Nat.reduceLT, Nat.reduceLeDiff, Nat.reduceEqDiff, Nat.reduceBEq, Int.reduceToNat]; refine hK' _ ?_; clear hK' K')
    refine AOps.nil ?_
    simp only [Post.then]
    refine hK _ ?_; clear hK K
    refine AWp.ret ?_
    refine on_leave (c := true) (by rfl) rfl hn ⟨ht1, ht2⟩ hf ⟨⟨rfl, rfl, rfl, rfl, trivial⟩, .inl ⟨rfl, ?_⟩⟩
    rw [ysOf_all]
  refine AWp.seq fun K hK => AWp.reg ?_
  iterate 4 (refine AOps.consU fun K' hK' => ?_; simp (disch := omega) only [go_sem, reduceCtorEq, ↓reduceIte, Nat.reduceAdd, Nat.reduceMul, Nat.reduceLT, Nat.reduceLeDiff, Nat.reduceEqDiff, Nat.reduceBEq, Int.reduceToNat]; refine hK' _ ?_; clear hK' K')
  refine AOps.nil ?_
  simp only [Post.then]
  refine hK _ ?_; clear hK K
  refine AWp.block ?_
  refine AWp.loopI (fun i : Nat => headOn m frm length rounds l all xs k w s i) (fun i => i ≤ m.offers.length) (fun i => m.offers.length - i) 0 (Nat.zero_le _) ?_ ?_
  · refine Sub.mk ⟨rfl, rfl, rfl, rfl, rfl, rfl, rfl, rfl, rfl, trivial⟩ ⟨rfl, rfl, rfl, rfl, rfl, trivial⟩ ⟨trivial, trivial, trivial, rfl, rfl, rfl, trivial, trivial, trivial, trivial⟩ (heapIn_refs ..) ⟨rfl, ?_, ?_⟩
    · simp only [headOn, heapIn, go_sem, reduceCtorEq, ↓reduceIte, Nat.reduceAdd, Nat.reduceMul, Nat.reduceLT, Nat.reduceLeDiff, Nat.reduceEqDiff, Nat.reduceBEq, Int.reduceToNat]
    · simp [headOn, ysOf_zero, lenc]
  · intro i hi
    simp only [headOn, heapIn]
    refine AWp.seq fun K hK => AWp.reg ?_
    iterate 1 (refine AOps.consU fun K' hK' => ?_; simp (disch := omega) only [go_sem, reduceCtorEq, ↓reduceIte, Nat.reduceAdd, Nat.reduceMul, Nat.reduceLT, Nat.reduceLeDiff, Nat.reduceEqDiff, Nat.reduceBEq, Int.reduceToNat]; refine hK' _ ?_; clear hK' K')
    refine AOps.nil ?_
    simp only [Post.then]
    refine hK _ ?_; clear hK K
    refine AWp.seq fun K hK => ?_
    refine AWp.cond (b := decide ((i : Int) < m.offers.length)) (by rfl) (fun hb => ?_) (fun hb => ?_)
    rotate_left
    · have hi2 : i = m.offers.length := by
        have : ¬ (i : Int) < m.offers.length := by simpa using hb
        omega
      subst hi2
      refine AWp.exit ?_
      simp only [Post.then, Post.inBlock, ↓reduceIte]
      refine ⟨(), trivial, ?_⟩
      exact Sub.mk ⟨rfl, rfl, rfl, rfl, rfl, rfl, rfl, rfl, rfl, trivial⟩ ⟨rfl, rfl, rfl, rfl, rfl, trivial⟩ ⟨trivial, trivial, trivial, rfl, rfl, rfl, trivial, trivial, trivial, trivial⟩ (heapIn_refs ..) ⟨rfl, by simp only [headOn, heapIn, go_sem, reduceCtorEq, ↓reduceIte, Nat.reduceAdd, Nat.reduceMul, Nat.reduceLT, Nat.reduceLeDiff, Nat.reduceEqDiff, Nat.reduceBEq, Int.reduceToNat], rfl⟩
    have hi2 : i < m.offers.length := by
      have : (i : Int) < m.offers.length := by simpa using hb
      omega
    obtain ⟨o, ho⟩ : ∃ o, m.offers[i]? = some o := ⟨_, List.getElem?_eq_getElem hi2⟩
    have hgo : goodOffer m.n o = true := by
      simp only [walksPre, Bool.and_eq_true, List.all_eq_true] at hpre
      exact hpre.2 o (List.mem_of_getElem? ho)
    have hyd : ∀ (σ' : St), Sub G 94 σ' (headOn m frm length rounds l all xs k w s (i + 1)) → ∃ i', i' ≤ m.offers.length ∧ m.offers.length - i' < m.offers.length - i ∧ Sub G 94 σ' (headOn m frm length rounds l all xs k w s i') := fun σ' h => ⟨i + 1, by omega, by omega, h⟩
    refine AWp.skip ?_
    simp only [Post.then, Post.inBlock]
    refine hK _ ?_; clear hK K
    refine AWp.seq fun K hK => ?_
    refine AWp.block ?_
    refine AWp.seq fun K2 hK2 => AWp.reg ?_
    iterate 6 (refine AOps.consU fun K' hK' => ?_; simp (disch := omega) only [go_sem, ho, Int.toNat_natCast, reduceCtorEq, ↓reduceIte, Nat.reduceAdd, Nat.reduceMul, Nat.reduceLT, Nat.reduceLeDiff, Nat.reduceEqDiff, Nat.reduceBEq, Int.reduceToNat]; refine hK' _ ?_; clear hK' K')
    refine AOps.nil ?_
    simp only [Post.then]
    refine hK2 _ ?_; clear hK2 K2
    refine AWp.seq fun K2 hK2 => AWp.reg ?_
    iterate 7 (refine AOps.consU fun K' hK' => ?_; simp (disch := omega) only [go_sem, reduceCtorEq, ↓reduceIte, Nat.reduceAdd, Nat.reduceMul, Nat.reduceLT, Nat.reduceLeDiff, Nat.reduceEqDiff, Nat.reduceBEq, Int.reduceToNat]; refine hK' _ ?_; clear hK' K')
    refine AOps.nil ?_
    simp only [Post.then]
    refine hK2 _ ?_; clear hK2 K2
    refine AWp.seq fun K2 hK2 => ?_
    refine AWp.seq fun K3 hK3 => AWp.reg ?_
    simp only [goodOffer, decide_eq_true_eq] at hgo
    obtain ⟨hg1, hg2, hg3, hg4, hg5, hg6, hg7, hg8⟩ := hgo
    have hto2 : o.To.toNat < (s.set w.to.toNat true).length := by rw [List.length_set, hn]; omega
    have hse : (s.set w.to.toNat true)[o.To.toNat]? = some ((s.set w.to.toNat true).getD o.To.toNat false) := by
      simp only [List.getD, List.getElem?_eq_getElem hto2, Option.getD_some]
    have hwl : w.list.length ≤ 1000 := by
      have := hk.k1
      simp only [walksPre, Bool.and_eq_true, decide_eq_true_eq] at hpre
      omega
    have hra : m_rate_ratio o.Num o.Den = some (ratioN o.Num o.Den) := ratio_some _ _ ⟨hg5, by omega⟩ ⟨hg7, by omega⟩
    have hgcd : 0 < Int.gcd o.Num o.Den := Int.gcd_pos_of_ne_zero_left _ (by omega)
    have hrn : 1 ≤ (ratioN o.Num o.Den).Num ∧ (ratioN o.Num o.Den).Num ≤ 50 ∧ 1 ≤ (ratioN o.Num o.Den).Den ∧ (ratioN o.Num o.Den).Den ≤ 50 := ratioN_bounds ⟨hg5, hg6⟩ ⟨hg7, hg8⟩
    have hp6 : (50 : Int) ^ w.list.length ≤ 15625000000 := by
      have hl : w.list.length ≤ 5 := by
        have := hk.k1
        simp only [walksPre, Bool.and_eq_true, decide_eq_true_eq] at hpre
        omega
      have : ∀ n : Nat, n ≤ 5 → (50 : Int) ^ n ≤ 15625000000 := by decide
      exact this _ hl
    have hti : m_rate_times w.rate (ratioN o.Num o.Den) = some (timesN w.rate (ratioN o.Num o.Den)) := by
      have b1 := hk.num1
      have b2 := hk.num2
      have b3 := hk.den1
      have b4 := hk.den2
      have m1 := mul_bounds (x := w.rate.Num) (y := (ratioN o.Num o.Den).Num) (a := 15625000000) (b := 50) ⟨by omega, by omega⟩ ⟨by omega, by omega⟩
      have m2 := mul_bounds (x := w.rate.Den) (y := (ratioN o.Num o.Den).Den) (a := 15625000000) (b := 50) ⟨by omega, by omega⟩ ⟨by omega, by omega⟩
      exact times_some _ _ ⟨by omega, by omega⟩ ⟨by omega, by omega⟩ ⟨by omega, by omega⟩ ⟨by omega, by omega⟩ (by omega) (by omega)
    have wl : IntKind.i64.wrap (length - 1) = length - 1 := by
      simp only [walksPre, Bool.and_eq_true, decide_eq_true_eq] at hpre
      exact wrap_i64_eq (by omega)
    have hlen2 : o.To < ((m.n.toNat : Nat) : Int) := by omega
    refine AOps.cut 25 (⟨[(1, .dptr 1 [.int .i64 length] 0 0), (2, .dptr 1 [.int .i64 frm] 0 0), (3, .dptr 1 [.bool rounds] 0 0), (5, .ptr 2 0 0), (7, .ptr 4 0 0), (8, .ptr 1000 0 0), (10, .d (.int .i64 i)), (11, .ptr 1001 0 0), (35, .d (.imm 4 (lenc Offer.pd m.offers))), (36, .d (.int .i64 m.offers.length)), (37, .d (.int .i64 i)), (72, .d (.bool (walkSkip frm length rounds w (s.set w.to.toNat true) o)))],
      heapIn m frm length rounds l m.n.toNat (s.set w.to.toNat true) w ++ [(1001, ⟨43, 4, [.d o.pd]⟩)], [.func (.func 95) [.ptr 2 0 0, .ptr 1000 0 0]], some (l, all, xs ++ lenc Walk.pd (ysOf m.offers frm length rounds k w s i), true)⟩) ?_ ?_
    · simp only [List.take_succ_cons, List.take_zero]
      rcases Bool.eq_false_or_eq_true (decide (¬o.From = w.to)) with c1 | c1
      · have hsk : walkSkip frm length rounds w (s.set w.to.toNat true) o = true := by simp only [walkSkip, c1, Bool.true_or]
        rw [hsk]
        iterate 25 (refine AOps.consU fun K' hK' => ?_; simp (disch := omega) only [go_sem, hse, c1, reduceCtorEq, ↓reduceIte, Nat.reduceAdd, Nat.reduceMul, Nat.reduceLT, Nat.reduceLeDiff, Nat.reduceEqDiff, Nat.reduceBEq, Int.reduceToNat]; refine hK' _ ?_; clear hK' K')
        refine AOps.nil ?_
        exact Sub.mk ⟨rfl, rfl, rfl, rfl, rfl, rfl, rfl, rfl, rfl, rfl, rfl, rfl, trivial⟩ ⟨rfl, rfl, rfl, rfl, rfl, rfl, trivial⟩ ⟨trivial, trivial, trivial, rfl, rfl, rfl, trivial, rfl, trivial, trivial, trivial, trivial, trivial⟩ (by simp only [heapIn, capsOn, go_sem, reduceCtorEq, ↓reduceIte, Nat.reduceAdd, Nat.reduceMul, Nat.reduceLT, Nat.reduceLeDiff, Nat.reduceEqDiff, Nat.reduceBEq, Int.reduceToNat]) ⟨rfl, by simp only [heapIn, go_sem, reduceCtorEq, ↓reduceIte, Nat.reduceAdd, Nat.reduceMul, Nat.reduceLT, Nat.reduceLeDiff, Nat.reduceEqDiff, Nat.reduceBEq, Int.reduceToNat], rfl⟩
      rcases Bool.eq_false_or_eq_true ((s.set w.to.toNat true).getD o.To.toNat false) with c2 | c2
      rotate_left
      · have hsk : walkSkip frm length rounds w (s.set w.to.toNat true) o = false := by simp only [walkSkip, c1, c2, Bool.false_and, Bool.or_false]
        rw [hsk]
        iterate 25 (refine AOps.consU fun K' hK' => ?_; simp (disch := omega) only [go_sem, hse, c1, c2, reduceCtorEq, ↓reduceIte, Nat.reduceAdd, Nat.reduceMul, Nat.reduceLT, Nat.reduceLeDiff, Nat.reduceEqDiff, Nat.reduceBEq, Int.reduceToNat]; refine hK' _ ?_; clear hK' K')
        refine AOps.nil ?_
        exact Sub.mk ⟨rfl, rfl, rfl, rfl, rfl, rfl, rfl, rfl, rfl, rfl, rfl, rfl, trivial⟩ ⟨rfl, rfl, rfl, rfl, rfl, rfl, trivial⟩ ⟨trivial, trivial, trivial, rfl, rfl, rfl, trivial, rfl, trivial, trivial, trivial, trivial, trivial⟩ (by simp only [heapIn, capsOn, go_sem, reduceCtorEq, ↓reduceIte, Nat.reduceAdd, Nat.reduceMul, Nat.reduceLT, Nat.reduceLeDiff, Nat.reduceEqDiff, Nat.reduceBEq, Int.reduceToNat]) ⟨rfl, by simp only [heapIn, go_sem, reduceCtorEq, ↓reduceIte, Nat.reduceAdd, Nat.reduceMul, Nat.reduceLT, Nat.reduceLeDiff, Nat.reduceEqDiff, Nat.reduceBEq, Int.reduceToNat], rfl⟩
      rcases Bool.eq_false_or_eq_true rounds with c3 | c3
      rotate_left
      · subst c3
        have hsk : walkSkip frm length false w (s.set w.to.toNat true) o = true := by simp only [walkSkip, c1, c2, Bool.false_and, Bool.not_false, Bool.and_true, Bool.or_true]
        rw [hsk]
        iterate 25 (refine AOps.consU fun K' hK' => ?_; simp (disch := omega) only [go_sem, hse, c1, c2, reduceCtorEq, ↓reduceIte, Nat.reduceAdd, Nat.reduceMul, Nat.reduceLT, Nat.reduceLeDiff, Nat.reduceEqDiff, Nat.reduceBEq, Int.reduceToNat]; refine hK' _ ?_; clear hK' K')
        refine AOps.nil ?_
        exact Sub.mk ⟨rfl, rfl, rfl, rfl, rfl, rfl, rfl, rfl, rfl, rfl, rfl, rfl, trivial⟩ ⟨rfl, rfl, rfl, rfl, rfl, rfl, trivial⟩ ⟨trivial, trivial, trivial, rfl, rfl, rfl, trivial, rfl, trivial, trivial, trivial, trivial, trivial⟩ (by simp only [heapIn, capsOn, go_sem, reduceCtorEq, ↓reduceIte, Nat.reduceAdd, Nat.reduceMul, Nat.reduceLT, Nat.reduceLeDiff, Nat.reduceEqDiff, Nat.reduceBEq, Int.reduceToNat]) ⟨rfl, by simp only [heapIn, go_sem, reduceCtorEq, ↓reduceIte, Nat.reduceAdd, Nat.reduceMul, Nat.reduceLT, Nat.reduceLeDiff, Nat.reduceEqDiff, Nat.reduceBEq, Int.reduceToNat], rfl⟩
      subst c3
      rcases Bool.eq_false_or_eq_true (decide ((w.list.length : Int) = length - 1)) with c4 | c4
      rotate_left
      · have hsk : walkSkip frm length true w (s.set w.to.toNat true) o = true := by simp only [walkSkip, c1, c2, c4, Bool.and_false, Bool.false_and, Bool.not_false, Bool.and_true, Bool.or_true]
        rw [hsk]
        iterate 25 (refine AOps.consU fun K' hK' => ?_; simp (disch := omega) only [go_sem, hse, c1, c2, c4, wl, reduceCtorEq, ↓reduceIte, Nat.reduceAdd, Nat.reduceMul, Nat.reduceLT, Nat.reduceLeDiff, Nat.reduceEqDiff, Nat.reduceBEq, Int.reduceToNat]; refine hK' _ ?_; clear hK' K')
        refine AOps.nil ?_
        exact Sub.mk ⟨rfl, rfl, rfl, rfl, rfl, rfl, rfl, rfl, rfl, rfl, rfl, rfl, trivial⟩ ⟨rfl, rfl, rfl, rfl, rfl, rfl, trivial⟩ ⟨trivial, trivial, trivial, rfl, rfl, rfl, trivial, rfl, trivial, trivial, trivial, trivial, trivial⟩ (by simp only [heapIn, capsOn, go_sem, reduceCtorEq, ↓reduceIte, Nat.reduceAdd, Nat.reduceMul, Nat.reduceLT, Nat.reduceLeDiff, Nat.reduceEqDiff, Nat.reduceBEq, Int.reduceToNat]) ⟨rfl, by simp only [heapIn, go_sem, reduceCtorEq, ↓reduceIte, Nat.reduceAdd, Nat.reduceMul, Nat.reduceLT, Nat.reduceLeDiff, Nat.reduceEqDiff, Nat.reduceBEq, Int.reduceToNat], rfl⟩
      · have hsk : walkSkip frm length true w (s.set w.to.toNat true) o = !(decide (o.To = frm)) := by simp only [walkSkip, c1, c2, c4, Bool.true_and, Bool.and_true, Bool.false_or]
        rw [hsk]
        iterate 25 (refine AOps.consU fun K' hK' => ?_; simp (disch := omega) only [go_sem, hse, c1, c2, c4, wl, reduceCtorEq, ↓reduceIte, Nat.reduceAdd, Nat.reduceMul, Nat.reduceLT, Nat.reduceLeDiff, Nat.reduceEqDiff, Nat.reduceBEq, Int.reduceToNat]; refine hK' _ ?_; clear hK' K')
        refine AOps.nil ?_
        exact Sub.mk ⟨rfl, rfl, rfl, rfl, rfl, rfl, rfl, rfl, rfl, rfl, rfl, rfl, trivial⟩ ⟨rfl, rfl, rfl, rfl, rfl, rfl, trivial⟩ ⟨trivial, trivial, trivial, rfl, rfl, rfl, trivial, rfl, trivial, trivial, trivial, trivial, trivial⟩ (by simp only [heapIn, capsOn, go_sem, reduceCtorEq, ↓reduceIte, Nat.reduceAdd, Nat.reduceMul, Nat.reduceLT, Nat.reduceLeDiff, Nat.reduceEqDiff, Nat.reduceBEq, Int.reduceToNat]) ⟨rfl, by simp only [heapIn, go_sem, reduceCtorEq, ↓reduceIte, Nat.reduceAdd, Nat.reduceMul, Nat.reduceLT, Nat.reduceLeDiff, Nat.reduceEqDiff, Nat.reduceBEq, Int.reduceToNat], rfl⟩
    simp only [List.drop_succ_cons, List.drop_zero, heapIn, List.cons_append, List.nil_append]
    refine AOps.nil ?_
    simp only [Post.then]
    refine hK3 _ ?_; clear hK3 K3
    refine AWp.cond (b := walkSkip frm length rounds w (s.set w.to.toNat true) o) (by rfl) (fun hb => ?_) (fun hb => ?_)
    · refine AWp.exit ?_
      simp only [Post.then, Post.inBlock, ↓reduceIte]
      refine hK _ ?_; clear hK2 K2 hK K
      refine AWp.reg ?_
      iterate 2 (refine AOps.consU fun K' hK' => ?_; simp (disch := omega) only [go_sem, reduceCtorEq, ↓reduceIte, Nat.reduceAdd, Nat.reduceMul, Nat.reduceLT, Nat.reduceLeDiff, Nat.reduceEqDiff, Nat.reduceBEq, Int.reduceToNat]; refine hK' _ ?_; clear hK' K')
      refine AOps.nil ?_
      simp only [Post.then]
      refine hyd _ ?_
      have hys : ysOf m.offers frm length rounds k w s (i + 1) = ysOf m.offers frm length rounds k w s i := by
        rw [ysOf_succ ho]; simp only [addOf, hb, if_true, List.append_nil]
      have hwi : IntKind.i64.wrap ((i : Int) + 1) = ((i + 1 : Nat) : Int) := by
        simp only [walksPre, Bool.and_eq_true, decide_eq_true_eq] at hpre
        rw [wrap_i64_eq (by omega)]; omega
      rw [hwi]
      exact Sub.mk ⟨rfl, rfl, rfl, rfl, rfl, rfl, rfl, rfl, rfl, trivial⟩ ⟨rfl, rfl, rfl, rfl, rfl, trivial⟩ ⟨trivial, trivial, trivial, rfl, rfl, rfl, trivial, trivial, trivial, trivial⟩ (heapIn_refs ..) ⟨rfl, by simp only [headOn, heapIn, go_sem, reduceCtorEq, ↓reduceIte, Nat.reduceAdd, Nat.reduceMul, Nat.reduceLT, Nat.reduceLeDiff, Nat.reduceEqDiff, Nat.reduceBEq, Int.reduceToNat], by simp only [headOn, hys]⟩
    · refine AWp.skip ?_
      simp only [Post.then, Post.inBlock]
      refine hK2 _ ?_; clear hK2 K2
      refine AWp.seq fun K2 hK2 => AWp.draw mo [(1002, [76, 79, 90])] ⟨by rfl, trivial⟩ ?_
      iterate 3 (refine DOps.consU fun K' hK' => ?_; simp (disch := omega) only [go_sem, exE, exOk, Key.among, Cont.rows, rowsOf, rowsOfL, capsOn, false_or, or_true, true_or, or_false, List.contains_cons, List.contains_nil, reduceCtorEq, ↓reduceIte, Nat.reduceAdd, Nat.reduceMul, Nat.reduceLT, Nat.reduceLeDiff, Nat.reduceEqDiff, Nat.reduceBEq, Int.reduceToNat]; refine hK' _ _ ?_; clear hK' K'; simp only [List.nil_append, List.cons_append])
      refine DOps.consC fun K' hK' => ?_
      simp (disch := omega) only [go_sem, reduceCtorEq, ↓reduceIte, Nat.reduceAdd, Nat.reduceMul, Nat.reduceLT, Nat.reduceLeDiff, Nat.reduceEqDiff, Nat.reduceBEq, Int.reduceToNat]
      refine OpX.callRow 1002 (by rfl) (by rfl) (by kernel_rfl) (clone_fn w.list hwl) (by exact ⟨rfl, trivial⟩) (by simp only [go_sem, reduceCtorEq, ↓reduceIte, Nat.reduceAdd, Nat.reduceMul, Nat.reduceLT, Nat.reduceLeDiff, Nat.reduceEqDiff, Nat.reduceBEq, Int.reduceToNat]) (by rfl) (by decide) (by simp only [go_sem, exE, exOk, Key.among, Cont.rows, rowsOf, rowsOfL, capsOn, false_or, or_true, true_or, or_false, List.contains_cons, List.contains_nil, reduceCtorEq, ↓reduceIte, Nat.reduceAdd, Nat.reduceMul, Nat.reduceLT, Nat.reduceLeDiff, Nat.reduceEqDiff, Nat.reduceBEq, Int.reduceToNat]) ?_
      simp (disch := omega) only [go_sem, reduceCtorEq, ↓reduceIte, Nat.reduceAdd, Nat.reduceMul, Nat.reduceLT, Nat.reduceLeDiff, Nat.reduceEqDiff, Nat.reduceBEq, Int.reduceToNat]; refine hK' _ _ ?_; clear hK' K'; simp only [List.nil_append, List.cons_append]
      iterate 1 (refine DOps.consU fun K' hK' => ?_; simp (disch := omega) only [go_sem, exE, exOk, Key.among, Cont.rows, rowsOf, rowsOfL, capsOn, false_or, or_true, true_or, or_false, List.contains_cons, List.contains_nil, reduceCtorEq, ↓reduceIte, Nat.reduceAdd, Nat.reduceMul, Nat.reduceLT, Nat.reduceLeDiff, Nat.reduceEqDiff, Nat.reduceBEq, Int.reduceToNat]; refine hK' _ _ ?_; clear hK' K'; simp only [List.nil_append, List.cons_append])
      refine DOps.consLU fun K' hK' => ?_; simp (disch := omega) only [go_sem, exE, exOk, Key.among, Cont.rows, rowsOf, rowsOfL, capsOn, false_or, or_true, true_or, or_false, List.contains_cons, List.contains_nil, reduceCtorEq, ↓reduceIte, Nat.reduceAdd, Nat.reduceMul, Nat.reduceLT, Nat.reduceLeDiff, Nat.reduceEqDiff, Nat.reduceBEq, Int.reduceToNat]; refine hK' _ _ ?_; clear hK' K'; simp only [List.nil_append, List.cons_append]
      refine DOps.consC fun K' hK' => ?_
      simp (disch := omega) only [go_sem, reduceCtorEq, ↓reduceIte, Nat.reduceAdd, Nat.reduceMul, Nat.reduceLT, Nat.reduceLeDiff, Nat.reduceEqDiff, Nat.reduceBEq, Int.reduceToNat]
      refine OpX.app (r := 1002) (n := w.list.length) (L := [.d (.int .i64 (i : Int))]) (S := [76, 79, 90]) (by rfl) (by rfl) (by rfl) (by rfl) (by rfl) (by decide) se27 T3_ok (by rfl) (by rfl) (by simp only [go_sem, reduceCtorEq, ↓reduceIte, Nat.reduceAdd, Nat.reduceMul, Nat.reduceLT, Nat.reduceLeDiff, Nat.reduceEqDiff, Nat.reduceBEq, Int.reduceToNat]) (by simp only [go_sem]) (by rfl) (by simp only [go_sem]) (by decide) (by simp only [List.length_singleton]; omega) (by simp only [List.length_singleton, go_sem]; omega) (.inl ⟨rfl, rfl⟩) (by rfl) (by rfl) (by decide) (by simp only [leadOnly, go_sem, rowsOf, exE, exOk, Key.among, Cont.rows, rowsOf, rowsOfL, capsOn, false_or, or_true, true_or, or_false, List.contains_cons, List.contains_nil, reduceCtorEq, ↓reduceIte, Nat.reduceAdd, Nat.reduceMul, Nat.reduceLT, Nat.reduceLeDiff, Nat.reduceEqDiff, Nat.reduceBEq, Int.reduceToNat]) (by simp only [go_sem]) (by rfl) (by rfl) (by simp only [go_sem, dl_rows, exE, exOk, Key.among, Cont.rows, rowsOf, rowsOfL, capsOn, false_or, or_true, true_or, or_false, List.contains_cons, List.contains_nil, reduceCtorEq, ↓reduceIte, Nat.reduceAdd, Nat.reduceMul, Nat.reduceLT, Nat.reduceLeDiff, Nat.reduceEqDiff, Nat.reduceBEq, Int.reduceToNat]) ?_
      simp (disch := omega) only [go_sem, reduceCtorEq, ↓reduceIte, Nat.reduceAdd, Nat.reduceMul, Nat.reduceLT, Nat.reduceLeDiff, Nat.reduceEqDiff, Nat.reduceBEq, Int.reduceToNat]; refine hK' _ _ ?_; clear hK' K'; simp only [List.nil_append, List.cons_append]
      iterate 6 (refine DOps.consU fun K' hK' => ?_; simp (disch := omega) only [go_sem, exE, exOk, Key.among, Cont.rows, rowsOf, rowsOfL, capsOn, false_or, or_true, true_or, or_false, List.contains_cons, List.contains_nil, dl_rows, reduceCtorEq, ↓reduceIte, Nat.reduceAdd, Nat.reduceMul, Nat.reduceLT, Nat.reduceLeDiff, Nat.reduceEqDiff, Nat.reduceBEq, Int.reduceToNat]; refine hK' _ _ ?_; clear hK' K'; simp only [List.nil_append, List.cons_append])
      refine DOps.consC fun K' hK' => ?_
      simp (disch := omega) only [go_sem, reduceCtorEq, ↓reduceIte, Nat.reduceAdd, Nat.reduceMul, Nat.reduceLT, Nat.reduceLeDiff, Nat.reduceEqDiff, Nat.reduceBEq, Int.reduceToNat]
      refine OpX.call (by rfl) (by rfl) (by kernel_rfl) (m_rate_ratio_ok o.Num o.Den _ hra) (by exact ⟨rfl, rfl, trivial⟩) (by simp only [go_sem, reduceCtorEq, ↓reduceIte, Nat.reduceAdd, Nat.reduceMul, Nat.reduceLT, Nat.reduceLeDiff, Nat.reduceEqDiff, Nat.reduceBEq, Int.reduceToNat]) (by simp only [go_sem]) (by simp only [go_sem, exE, exOk, Key.among, Cont.rows, rowsOf, rowsOfL, capsOn, false_or, or_true, true_or, or_false, List.contains_cons, List.contains_nil, dl_rows, reduceCtorEq, ↓reduceIte, Nat.reduceAdd, Nat.reduceMul, Nat.reduceLT, Nat.reduceLeDiff, Nat.reduceEqDiff, Nat.reduceBEq, Int.reduceToNat]) ?_
      simp (disch := omega) only [go_sem, reduceCtorEq, ↓reduceIte, Nat.reduceAdd, Nat.reduceMul, Nat.reduceLT, Nat.reduceLeDiff, Nat.reduceEqDiff, Nat.reduceBEq, Int.reduceToNat]; refine hK' _ _ ?_; clear hK' K'; simp only [List.nil_append, List.cons_append]
      refine DOps.consC fun K' hK' => ?_
      simp (disch := omega) only [go_sem, reduceCtorEq, ↓reduceIte, Nat.reduceAdd, Nat.reduceMul, Nat.reduceLT, Nat.reduceLeDiff, Nat.reduceEqDiff, Nat.reduceBEq, Int.reduceToNat]
      refine OpX.call (by rfl) (by rfl) (by kernel_rfl) (m_rate_times_ok w.rate (ratioN o.Num o.Den) _ hti) (by exact ⟨rfl, rfl, trivial⟩) (by simp only [go_sem, reduceCtorEq, ↓reduceIte, Nat.reduceAdd, Nat.reduceMul, Nat.reduceLT, Nat.reduceLeDiff, Nat.reduceEqDiff, Nat.reduceBEq, Int.reduceToNat]) (by simp only [go_sem]) (by simp only [go_sem, exE, exOk, Key.among, Cont.rows, rowsOf, rowsOfL, capsOn, false_or, or_true, true_or, or_false, List.contains_cons, List.contains_nil, dl_rows, reduceCtorEq, ↓reduceIte, Nat.reduceAdd, Nat.reduceMul, Nat.reduceLT, Nat.reduceLeDiff, Nat.reduceEqDiff, Nat.reduceBEq, Int.reduceToNat]) ?_
      simp (disch := omega) only [go_sem, reduceCtorEq, ↓reduceIte, Nat.reduceAdd, Nat.reduceMul, Nat.reduceLT, Nat.reduceLeDiff, Nat.reduceEqDiff, Nat.reduceBEq, Int.reduceToNat]; refine hK' _ _ ?_; clear hK' K'; simp only [List.nil_append, List.cons_append]
      iterate 3 (refine DOps.consU fun K' hK' => ?_; simp (disch := omega) only [go_sem, exE, exOk, Key.among, Cont.rows, rowsOf, rowsOfL, capsOn, false_or, or_true, true_or, or_false, List.contains_cons, List.contains_nil, dl_rows, reduceCtorEq, ↓reduceIte, Nat.reduceAdd, Nat.reduceMul, Nat.reduceLT, Nat.reduceLeDiff, Nat.reduceEqDiff, Nat.reduceBEq, Int.reduceToNat]; refine hK' _ _ ?_; clear hK' K'; simp only [List.nil_append, List.cons_append])
      refine DOps.stop (by kernel_rfl) ?_
      have hlst : lstD 1 (lenc (PD.int .i64) (w.list ++ [(i : Int)])) = .imm 1 (lenc (PD.int .i64) (w.list ++ [(i : Int)])) := by
        cases w.list <;> rfl
      have hpd : Walk.pd ⟨w.list ++ [(i : Int)], timesN w.rate (ratioN o.Num o.Den), o.To⟩ = .agg [.imm 1 (lenc (PD.int .i64) (w.list ++ [(i : Int)])), .int .i64 (timesN w.rate (ratioN o.Num o.Den)).Num, .int .i64 (timesN w.rate (ratioN o.Num o.Den)).Den, .int .i64 o.To] := by
        simp only [Walk.pd, hlst]
      refine AOps.sub (τ := ⟨[(1, .dptr 1 [.int .i64 length] 0 0), (2, .dptr 1 [.int .i64 frm] 0 0), (3, .dptr 1 [.bool rounds] 0 0), (5, .ptr 2 0 0), (7, .ptr 4 0 0), (8, .ptr 1000 0 0), (35, .d (.imm 4 (lenc Offer.pd m.offers))), (36, .d (.int .i64 m.offers.length)), (37, .d (.int .i64 i)), (73, .func (.func 94) (capsOn m frm length rounds)), (90, .d (Walk.pd ⟨w.list ++ [(i : Int)], timesN w.rate (ratioN o.Num o.Den), o.To⟩))],
        heapIn m frm length rounds l m.n.toNat (s.set w.to.toNat true) w, [.func (.func 95) [.ptr 2 0 0, .ptr 1000 0 0]], some (l, all, xs ++ lenc Walk.pd (ysOf m.offers frm length rounds k w s i), true)⟩)
        (Sub.cv ⟨rfl, rfl, rfl, rfl, rfl, trivial⟩ ⟨.inl ⟨leV_refl _, trivial⟩, .inl ⟨leV_refl _, trivial⟩, .inl ⟨leV_refl _, trivial⟩, .inl ⟨leV_refl _, rfl⟩, .inl ⟨leV_refl _, rfl⟩, .inl ⟨leV_refl _, rfl⟩, .inl ⟨leV_refl _, trivial⟩, .inl ⟨leV_refl _, trivial⟩, .inl ⟨leV_refl _, trivial⟩, .inl ⟨leV_refl _, by simp only [heapIn, capsOn, go_sem, reduceCtorEq, ↓reduceIte, Nat.reduceAdd, Nat.reduceMul, Nat.reduceLT, Nat.reduceLeDiff, Nat.reduceEqDiff, Nat.reduceBEq, Int.reduceToNat]⟩, .inr ⟨.d (Walk.pd ⟨w.list ++ [(i : Int)], timesN w.rate (ratioN o.Num o.Den), o.To⟩), ?_, leV_refl _, ?_⟩, trivial⟩ (heapIn_refs ..) ⟨rfl, by simp only [heapIn, go_sem, reduceCtorEq, ↓reduceIte, Nat.reduceAdd, Nat.reduceMul, Nat.reduceLT, Nat.reduceLeDiff, Nat.reduceEqDiff, Nat.reduceBEq, Int.reduceToNat], rfl⟩) ?_
      · rw [hpd]
        have htk : (w.list ++ [(i : Int)]).take (w.list.length + 1) = w.list ++ [(i : Int)] := List.take_of_length_le (by simp)
        simp only [go_sem, htk, reduceCtorEq, ↓reduceIte, Nat.reduceAdd, Nat.reduceMul, Nat.reduceLT, Nat.reduceLeDiff, Nat.reduceEqDiff, Nat.reduceBEq, Int.reduceToNat]
      · intro r hr
        simp only [go_sem, rowsOf, rowsOfL, List.mem_cons, List.not_mem_nil, or_false, reduceCtorEq, ↓reduceIte, Nat.reduceAdd, Nat.reduceMul, Nat.reduceLT, Nat.reduceLeDiff, Nat.reduceEqDiff, Nat.reduceBEq, Int.reduceToNat] at hr
        subst hr; rfl
      have hadd : addOf m.offers frm length rounds k w s (o, i) = walkOn m.offers frm length rounds k ⟨w.list ++ [(i : Int)], timesN w.rate (ratioN o.Num o.Den), o.To⟩ (s.set w.to.toNat true) := by
        simp only [addOf, hb, Bool.false_eq_true, if_false]
      have hok : OnOk m length ⟨w.list ++ [(i : Int)], timesN w.rate (ratioN o.Num o.Den), o.To⟩ (s.set w.to.toNat true) k := by
        have hk1 := hk.k1
        have htb := timesN_bounds (p := w.rate) (q := ratioN o.Num o.Den) (a := 50 ^ w.list.length) (b := 50) ⟨hk.num1, hk.num2⟩ ⟨hk.den1, hk.den2⟩ ⟨by omega, by omega⟩ ⟨by omega, by omega⟩
        have hll : (w.list ++ [(i : Int)]).length = w.list.length + 1 := by simp
        have hlg : 0 ≤ length := by
          simp only [walksPre, Bool.and_eq_true, decide_eq_true_eq] at hpre
          omega
        refine ⟨by rw [hll]; omega, by omega, by rw [List.length_set]; exact hn, hg3, hg4, htb.1, ?_, htb.2.2.1, ?_, ?_⟩
        · rw [hll, Int.pow_succ]; exact htb.2.1
        · rw [hll, Int.pow_succ]; exact htb.2.2.2
        · rw [hll]
          rcases Bool.eq_false_or_eq_true ((s.set w.to.toNat true).getD o.To.toNat false) with c | c
          · right
            have hb2 := hb
            simp only [walkSkip, c, Bool.true_and, Bool.or_eq_false_iff, Bool.not_eq_false', Bool.and_eq_true, decide_eq_true_eq] at hb2
            have := hb2.2.1.2
            omega
          · left
            rw [hse, c]
      have hpf : (xs ++ lenc Walk.pd (ysOf m.offers frm length rounds k w s i)) ++ lenc Walk.pd (walkOn m.offers frm length rounds k ⟨w.list ++ [(i : Int)], timesN w.rate (ratioN o.Num o.Den), o.To⟩ (s.set w.to.toNat true)) <+: all := by
        obtain ⟨r, hr⟩ := ysOf_pre (offers := m.offers) (frm := frm) (length := length) (rounds := rounds) (k := k) (w := w) (s := s) (i := i + 1)
        rw [ysOf_succ ho, hadd] at hr
        refine List.IsPrefix.trans ⟨lenc Walk.pd r, ?_⟩ hall
        rw [hr]; simp [lenc]
      simp only [heapIn]
      refine AOps.consC (by simp only [go_sem, reduceCtorEq, ↓reduceIte, Nat.reduceAdd, Nat.reduceMul, Nat.reduceLT, Nat.reduceLeDiff, Nat.reduceEqDiff, Nat.reduceBEq, Int.reduceToNat]) fun K' hK' => ?_
      simp (disch := omega) only [go_sem, reduceCtorEq, ↓reduceIte, Nat.reduceAdd, Nat.reduceMul, Nat.reduceLT, Nat.reduceLeDiff, Nat.reduceEqDiff, Nat.reduceBEq, Int.reduceToNat]
      refine OpT.callG (H := heapOn m frm length rounds l m.n.toNat (s.set w.to.toNat true)) (g := id) (gc := some (l, all, xs ++ lenc Walk.pd (ysOf m.offers frm length rounds k w s i), true)) (by rfl) (by rfl) (by rfl) (by kernel_rfl) (ih _ _ _ hok hpf) (Hand.of ?_ ?_) (.inr rfl) ?_ (by simp only [go_sem, reduceCtorEq, ↓reduceIte, Nat.reduceAdd, Nat.reduceMul, Nat.reduceLT, Nat.reduceLeDiff, Nat.reduceEqDiff, Nat.reduceBEq, Int.reduceToNat]) ?_
      · simp only [go_sem, heapOn, capsOn, Row.ren, renL, PV.ren, dl_ren, id, reduceCtorEq, ↓reduceIte, Nat.reduceAdd, Nat.reduceMul, Nat.reduceLT, Nat.reduceLeDiff, Nat.reduceEqDiff, Nat.reduceBEq, Int.reduceToNat]
      · simp only [go_sem, heapOn, id, reduceCtorEq, ↓reduceIte, Nat.reduceAdd, Nat.reduceMul, Nat.reduceLT, Nat.reduceLeDiff, Nat.reduceEqDiff, Nat.reduceBEq, Int.reduceToNat]
      · simp only [go_sem, heapOn, capsOn, handsOk, handOk, id, reduceCtorEq, ↓reduceIte, Nat.reduceAdd, Nat.reduceMul, Nat.reduceLT, Nat.reduceLeDiff, Nat.reduceEqDiff, Nat.reduceBEq, Int.reduceToNat]
      rintro p H' g' ⟨rfl, hp⟩
      refine ⟨id, Back.of ?_ ?_ ?_, ?_, ?_, ?_⟩
      · simp only [go_sem, heapOn, capsOn, Row.ren, renL, PV.ren, dl_ren, id, dl_length, dl_clean, clean, cleanL, reduceCtorEq, ↓reduceIte, Nat.reduceAdd, Nat.reduceMul, Nat.reduceLT, Nat.reduceLeDiff, Nat.reduceEqDiff, Nat.reduceBEq, Int.reduceToNat]
      · simp only [go_sem, heapOn, id, reduceCtorEq, ↓reduceIte, Nat.reduceAdd, Nat.reduceMul, Nat.reduceLT, Nat.reduceLeDiff, Nat.reduceEqDiff, Nat.reduceBEq, Int.reduceToNat]
      · simp only [go_sem, heapOn, id, reduceCtorEq, ↓reduceIte, Nat.reduceAdd, Nat.reduceMul, Nat.reduceLT, Nat.reduceLeDiff, Nat.reduceEqDiff, Nat.reduceBEq, Int.reduceToNat]
      · rcases hp with ⟨rfl, _⟩ | ⟨_, _, _, rfl, _⟩ <;> trivial
      · rcases hp with ⟨rfl, _⟩ | ⟨_, _, _, rfl, _⟩ <;> trivial
      rcases hp with ⟨rfl, rfl⟩ | ⟨part, rest, hpr, rfl, rfl⟩
      · simp only [go_sem, heapOn, capsOn, hmerge, Row.ren, renL, PV.ren, dl_ren, id, ghBack, reduceCtorEq, ↓reduceIte, Nat.reduceAdd, Nat.reduceMul, Nat.reduceLT, Nat.reduceLeDiff, Nat.reduceEqDiff, Nat.reduceBEq, Int.reduceToNat]; refine hK' _ ?_; clear hK' K'
        iterate 1 (refine AOps.consU fun K' hK' => ?_; simp (disch := omega) only [go_sem, reduceCtorEq, ↓reduceIte, Nat.reduceAdd, Nat.reduceMul, Nat.reduceLT, Nat.reduceLeDiff, Nat.reduceEqDiff, Nat.reduceBEq, Int.reduceToNat]; refine hK' _ ?_; clear hK' K')
        refine AOps.nil ?_
        simp only [Post.then]
        refine hK2 _ ?_; clear hK2 K2
        refine AWp.cond (b := false) (by rfl) (fun hb => by cases hb) (fun _ => ?_)
        refine AWp.skip ?_
        simp only [Post.then, Post.inBlock]
        refine hK _ ?_; clear hK K
        refine AWp.reg ?_
        iterate 2 (refine AOps.consU fun K' hK' => ?_; simp (disch := omega) only [go_sem, reduceCtorEq, ↓reduceIte, Nat.reduceAdd, Nat.reduceMul, Nat.reduceLT, Nat.reduceLeDiff, Nat.reduceEqDiff, Nat.reduceBEq, Int.reduceToNat]; refine hK' _ ?_; clear hK' K')
        refine AOps.nil ?_
        simp only [Post.then]
        refine hyd _ ?_
        have hwi : IntKind.i64.wrap ((i : Int) + 1) = ((i + 1 : Nat) : Int) := by
          simp only [walksPre, Bool.and_eq_true, decide_eq_true_eq] at hpre
          rw [wrap_i64_eq (by omega)]; omega
        rw [hwi]
        exact Sub.mk ⟨rfl, rfl, rfl, rfl, rfl, rfl, rfl, rfl, rfl, trivial⟩ ⟨rfl, rfl, rfl, rfl, rfl, trivial⟩ ⟨trivial, trivial, trivial, rfl, rfl, rfl, trivial, trivial, trivial, trivial⟩ (heapIn_refs ..) ⟨rfl, by simp only [headOn, heapIn, go_sem, reduceCtorEq, ↓reduceIte, Nat.reduceAdd, Nat.reduceMul, Nat.reduceLT, Nat.reduceLeDiff, Nat.reduceEqDiff, Nat.reduceBEq, Int.reduceToNat], by simp only [headOn, ysOf_succ ho, hadd]; simp [lenc]⟩
      · simp only [go_sem, heapOn, capsOn, hmerge, Row.ren, renL, PV.ren, dl_ren, id, ghBack, reduceCtorEq, ↓reduceIte, Nat.reduceAdd, Nat.reduceMul, Nat.reduceLT, Nat.reduceLeDiff, Nat.reduceEqDiff, Nat.reduceBEq, Int.reduceToNat]; refine hK' _ ?_; clear hK' K'
        iterate 1 (refine AOps.consU fun K' hK' => ?_; simp (disch := omega) only [go_sem, reduceCtorEq, ↓reduceIte, Nat.reduceAdd, Nat.reduceMul, Nat.reduceLT, Nat.reduceLeDiff, Nat.reduceEqDiff, Nat.reduceBEq, Int.reduceToNat]; refine hK' _ ?_; clear hK' K')
        refine AOps.nil ?_
        simp only [Post.then]
        refine hK2 _ ?_; clear hK2 K2
        refine AWp.cond (b := true) (by rfl) (fun _ => ?_) (fun hb => by cases hb)
        refine AWp.seq fun K2 hK2 => AWp.reg ?_
        iterate 1 (refine AOps.consU fun K' hK' => ?_; simp (disch := omega) only [go_sem, reduceCtorEq, ↓reduceIte, Nat.reduceAdd, Nat.reduceMul, Nat.reduceLT, Nat.reduceLeDiff, Nat.reduceEqDiff, Nat.reduceBEq, Int.reduceToNat]; refine hK' _ ?_; clear hK' K')
        refine AOps.nil ?_
        simp only [Post.then]
        refine hK2 _ ?_; clear hK2 K2
        refine AWp.ret ?_
        simp only [Post.then, Post.inBlock]
        obtain ⟨r, hr⟩ := ysOf_pre (offers := m.offers) (frm := frm) (length := length) (rounds := rounds) (k := k) (w := w) (s := s) (i := i + 1)
        refine on_leave (c := false) (by rfl) rfl hn ⟨ht1, ht2⟩ hf ⟨⟨rfl, rfl, rfl, rfl, trivial⟩, .inr ⟨lenc Walk.pd (ysOf m.offers frm length rounds k w s i) ++ part, rest ++ lenc Walk.pd r, ?_, rfl, ?_⟩⟩
        · rw [hr, ysOf_succ ho, hadd]
          have : lenc Walk.pd (ysOf m.offers frm length rounds k w s i ++ walkOn m.offers frm length rounds k ⟨w.list ++ [(i : Int)], timesN w.rate (ratioN o.Num o.Den), o.To⟩ (s.set w.to.toNat true) ++ r) = lenc Walk.pd (ysOf m.offers frm length rounds k w s i) ++ lenc Walk.pd (walkOn m.offers frm length rounds k ⟨w.list ++ [(i : Int)], timesN w.rate (ratioN o.Num o.Den), o.To⟩ (s.set w.to.toNat true)) ++ lenc Walk.pd r := by simp [lenc]
          rw [this, hpr]; simp
        · simp

end Go.Pv.Tryd

set_option linter.unusedSimpArgs false
set_option linter.unusedVariables false
namespace Go.Pv.Tryd
open Go.Proofs Go.Pv

theorem on_fn (m : Market) (frm length : Int) (rounds : Bool) (l : Nat) (all : List PD) (hpre : walksPre m frm length rounds = true) : ∀ (k : Nat) (w : Walk) (s : List Bool) (xs : List PD), OnOk m length w s k →
    xs ++ lenc Walk.pd (walkOn m.offers frm length rounds k w s) <+: all →
    FnG Tryd.prog G 94 (.d w.pd :: capsOn m frm length rounds) (heapOn m frm length rounds l m.n.toNat s) (some (l, all, xs, true)) (OnPost (lenc Walk.pd (walkOn m.offers frm length rounds k w s)) (heapOn m frm length rounds l m.n.toNat s) l all xs)
  | 0, w, s, xs, hk, _ => absurd hk.k2 (by omega)
  | k + 1, w, s, xs, hk, hall => by
    by_cases he : (w.list.length : Int) = length
    · exact on_end m frm length rounds l all k w s xs hk he hall
    · exact on_step m frm length rounds l all hpre k w s xs hk he (fun w' s' xs' => on_fn m frm length rounds l all hpre k w' s' xs') hall

@[go_sem] def walkCaps (m : Market) (frm length : Int) (rounds : Bool) : List PV := [.dptr 2 [Market.pd m] 0 0, .dptr 1 [.int .i64 length] 0 0, .dptr 1 [.int .i64 frm] 0 0, .dptr 1 [.bool rounds] 0 0]

theorem walks_seq (m : Market) (frm length : Int) (rounds : Bool) (hpre : walksPre m frm length rounds = true) : SeqFn Tryd.prog G 93 (walkCaps m frm length rounds) (lenc Walk.pd (walksL m frm length rounds)) := by
  intro l
  have hp := hpre
  simp only [walksPre, Bool.and_eq_true, decide_eq_true_eq] at hp
  obtain ⟨⟨hp1, hp2, hp3, hp4, hp5, hp6⟩, hp7⟩ := hp
  have hrep : lenc PD.bool (List.replicate m.n.toNat false) = List.replicate m.n.toNat (PD.bool false) := by simp [lenc]
  have hok : OnOk m length ⟨[], ⟨1, 1⟩, frm⟩ (List.replicate m.n.toNat false) (length.toNat + 1) := by
    refine ⟨by simp, by omega, by simp, hp3, hp4, by simp, by simp, by simp, by simp, .inl ?_⟩
    show (List.replicate m.n.toNat false)[frm.toNat]? = some false
    rw [List.getElem?_replicate, if_pos (by omega)]
  refine FnG.less (R := fun p _ g' => p = .tuple [] ∧ (g' = some (l, lenc Walk.pd (walksL m frm length rounds), lenc Walk.pd (walksL m frm length rounds), true) ∨ ∃ part rest, lenc Walk.pd (walksL m frm length rounds) = part ++ rest ∧ g' = some (l, lenc Walk.pd (walksL m frm length rounds), part, false))) ?_ ?_
  rotate_left
  · rintro p H' g' ⟨rfl, h⟩
    exact ⟨[], trivial, trivial, trivial, rfl, h⟩
  refine FnG.introD Tryd.func93 (by rfl) (by rw [Tryd.ntmps93]; simp [walkCaps]) ?_
  rw [Tryd.ntmps93]
  simp only [argEnv, walkCaps, Nat.reduceAdd]
  refine AWp.seq fun K hK => AWp.reg ?_
  iterate 1 (refine AOps.consU fun K' hK' => ?_; simp (disch := omega) only [go_sem, reduceCtorEq, ↓reduceIte, Nat.reduceAdd, Nat.reduceMul, Nat.reduceLT, Nat.reduceLeDiff, Nat.reduceEqDiff, Nat.reduceBEq, Int.reduceToNat]; refine hK' _ ?_; clear hK' K')
  refine AOps.nil ?_
  simp only [Post.then]
  refine hK _ ?_; clear hK K
  refine AWp.seq fun K hK => AWp.reg ?_
  iterate 5 (refine AOps.consU fun K' hK' => ?_; simp (disch := omega) only [go_sem, reduceCtorEq, ↓reduceIte, Nat.reduceAdd, Nat.reduceMul, Nat.reduceLT, Nat.reduceLeDiff, Nat.reduceEqDiff, Nat.reduceBEq, Int.reduceToNat]; refine hK' _ ?_; clear hK' K')
  refine AOps.nil ?_
  simp only [Post.then]
  refine hK _ ?_; clear hK K
  refine AWp.seq fun K hK => AWp.reg ?_
  iterate 1 (refine AOps.consU fun K' hK' => ?_; simp (disch := omega) only [go_sem, reduceCtorEq, ↓reduceIte, Nat.reduceAdd, Nat.reduceMul, Nat.reduceLT, Nat.reduceLeDiff, Nat.reduceEqDiff, Nat.reduceBEq, Int.reduceToNat]; refine hK' _ ?_; clear hK' K')
  refine AOps.nil ?_
  simp only [Post.then]
  refine hK _ ?_; clear hK K
  refine AWp.seq fun K hK => AWp.reg ?_
  iterate 2 (refine AOps.consU fun K' hK' => ?_; simp (disch := omega) only [go_sem, reduceCtorEq, ↓reduceIte, Nat.reduceAdd, Nat.reduceMul, Nat.reduceLT, Nat.reduceLeDiff, Nat.reduceEqDiff, Nat.reduceBEq, Int.reduceToNat]; refine hK' _ ?_; clear hK' K')
  refine AOps.nil ?_
  simp only [Post.then]
  refine hK _ ?_; clear hK K
  refine AWp.reg ?_
  iterate 4 (refine AOps.consU fun K' hK' => ?_; simp (disch := omega) only [go_sem, reduceCtorEq, ↓reduceIte, Nat.reduceAdd, Nat.reduceMul, Nat.reduceLT, Nat.reduceLeDiff, Nat.reduceEqDiff, Nat.reduceBEq, Int.reduceToNat]; refine hK' _ ?_; clear hK' K')
  refine AOps.consC (by simp only [go_sem, reduceCtorEq, ↓reduceIte, Nat.reduceAdd, Nat.reduceMul, Nat.reduceLT, Nat.reduceLeDiff, Nat.reduceEqDiff, Nat.reduceBEq, Int.reduceToNat]) fun K' hK' => ?_
  simp (disch := omega) only [go_sem, reduceCtorEq, ↓reduceIte, Nat.reduceAdd, Nat.reduceMul, Nat.reduceLT, Nat.reduceLeDiff, Nat.reduceEqDiff, Nat.reduceBEq, Int.reduceToNat]
  have hf := on_fn m frm length rounds l (lenc Walk.pd (walksL m frm length rounds)) hpre (length.toNat + 1) ⟨[], ⟨1, 1⟩, frm⟩ (List.replicate m.n.toNat false) [] hok (by rw [List.nil_append]; exact List.prefix_refl _)
  refine OpT.callG (H := heapOn m frm length rounds l m.n.toNat (List.replicate m.n.toNat false)) (g := renOf [(1, 1000), (2, 1002), (3, 1001), (4, 1003)]) (gc := some (l, lenc Walk.pd (walksL m frm length rounds), [], true)) (by rfl) (by rfl) (by rfl) (by kernel_rfl) hf (Hand.of ?_ ?_) (.inr rfl) ?_ (by simp only [go_sem, reduceCtorEq, ↓reduceIte, Nat.reduceAdd, Nat.reduceMul, Nat.reduceLT, Nat.reduceLeDiff, Nat.reduceEqDiff, Nat.reduceBEq, Int.reduceToNat]) ?_
  · simp only [go_sem, heapOn, capsOn, Row.ren, renL, PV.ren, dl_ren, Walk.pd, reduceCtorEq, ↓reduceIte, Nat.reduceAdd, Nat.reduceMul, Nat.reduceLT, Nat.reduceLeDiff, Nat.reduceEqDiff, Nat.reduceBEq, Int.reduceToNat]
  · simp only [go_sem, heapOn, reduceCtorEq, ↓reduceIte, Nat.reduceAdd, Nat.reduceMul, Nat.reduceLT, Nat.reduceLeDiff, Nat.reduceEqDiff, Nat.reduceBEq, Int.reduceToNat]
  · simp only [go_sem, handsOk, handOk, heapOn, capsOn, lstD, lenc, Walk.pd, List.map_nil, reduceCtorEq, ↓reduceIte, Nat.reduceAdd, Nat.reduceMul, Nat.reduceLT, Nat.reduceLeDiff, Nat.reduceEqDiff, Nat.reduceBEq, Int.reduceToNat]
  rintro p H' g' ⟨rfl, hp⟩
  refine ⟨renOf [(1, 1000), (2, 1002), (3, 1001), (4, 1003)], Back.of ?_ ?_ ?_, ?_, ?_, ?_⟩
  · simp only [go_sem, heapOn, capsOn, Row.ren, renL, PV.ren, dl_ren, dl_length, dl_clean, clean, cleanL, reduceCtorEq, ↓reduceIte, Nat.reduceAdd, Nat.reduceMul, Nat.reduceLT, Nat.reduceLeDiff, Nat.reduceEqDiff, Nat.reduceBEq, Int.reduceToNat]
  · simp only [go_sem, heapOn, reduceCtorEq, ↓reduceIte, Nat.reduceAdd, Nat.reduceMul, Nat.reduceLT, Nat.reduceLeDiff, Nat.reduceEqDiff, Nat.reduceBEq, Int.reduceToNat]
  · simp only [go_sem, heapOn, reduceCtorEq, ↓reduceIte, Nat.reduceAdd, Nat.reduceMul, Nat.reduceLT, Nat.reduceLeDiff, Nat.reduceEqDiff, Nat.reduceBEq, Int.reduceToNat]
  · rcases hp with ⟨rfl, _⟩ | ⟨_, _, _, rfl, _⟩ <;> trivial
  · rcases hp with ⟨rfl, _⟩ | ⟨_, _, _, rfl, _⟩ <;> trivial
  simp only [go_sem, heapOn, capsOn, hmerge, Row.ren, renL, PV.ren, dl_ren, ghBack, reduceCtorEq, ↓reduceIte, Nat.reduceAdd, Nat.reduceMul, Nat.reduceLT, Nat.reduceLeDiff, Nat.reduceEqDiff, Nat.reduceBEq, Int.reduceToNat]; refine hK' _ ?_; clear hK' K'
  refine AOps.nil ?_
  simp only [Fin1]
  refine .inl ⟨.tuple [], ?_, by first | exact True.intro | rfl, rfl, ?_⟩
  · simp only [go_sem, Tryd.results93, reduceCtorEq, ↓reduceIte, Nat.reduceAdd, Nat.reduceMul, Nat.reduceLT, Nat.reduceLeDiff, Nat.reduceEqDiff, Nat.reduceBEq, Int.reduceToNat]
  · rcases hp with ⟨_, rfl⟩ | ⟨part, rest, h1, _, rfl⟩
    · exact .inl rfl
    · exact .inr ⟨part, rest, h1, rfl⟩

theorem walks_fn (m : Market) (frm length : Int) (rounds : Bool) : PureFn Tryd.prog G 80 [.d (Market.pd m), .d (.int .i64 frm), .d (.int .i64 length), .d (.bool rounds)] (.func (.func 93) (walkCaps m frm length rounds)) := by
  refine PureFn.intro2 Tryd.func80 (by rfl) (by rw [Tryd.ntmps80]; simp) ?_
  rw [Tryd.ntmps80]
  simp only [argEnv, Nat.reduceAdd]
  refine AWp.seq fun K hK => AWp.reg ?_
  iterate 5 (refine AOps.consU fun K' hK' => ?_; simp (disch := omega) only [go_sem, reduceCtorEq, ↓reduceIte, Nat.reduceAdd, Nat.reduceMul, Nat.reduceLT, Nat.reduceLeDiff, Nat.reduceEqDiff, Nat.reduceBEq, Int.reduceToNat]; refine hK' _ ?_; clear hK' K')
  refine AOps.nil ?_
  simp only [Post.then]
  refine hK _ ?_; clear hK K
  refine AWp.seq fun K hK => AWp.reg ?_
  iterate 2 (refine AOps.consU fun K' hK' => ?_; simp (disch := omega) only [go_sem, reduceCtorEq, ↓reduceIte, Nat.reduceAdd, Nat.reduceMul, Nat.reduceLT, Nat.reduceLeDiff, Nat.reduceEqDiff, Nat.reduceBEq, Int.reduceToNat]; refine hK' _ ?_; clear hK' K')
  refine AOps.nil ?_
  simp only [Post.then]
  refine hK _ ?_; clear hK K
  refine AWp.ret ?_
  simp only [Go.Pv.Fin, Go.Pv.FinG]
  refine ⟨.func (.func 93) [.ptr 1000 0 0, .ptr 1002 0 0, .ptr 1001 0 0, .ptr 1003 0 0], ?_, True.intro, _, rfl, ?_⟩
  · simp only [go_sem, Tryd.results80, reduceCtorEq, ↓reduceIte, Nat.reduceAdd, Nat.reduceMul, Nat.reduceLT, Nat.reduceLeDiff, Nat.reduceEqDiff, Nat.reduceBEq, Int.reduceToNat]
  · exact leV_refl _

end Go.Pv.Tryd



namespace Go.Pv.Tryd
open Go.Proofs Go.Pv

theorem m_rate_above_ok (a1 : Ratio) (b1 : Ratio) (r : Bool) (h : m_rate_above a1 b1 = some r) : PureFn Tryd.prog G 56 [.d (.agg [(.int .i64 a1.Num), (.int .i64 a1.Den)]), .d (.agg [(.int .i64 b1.Num), (.int .i64 b1.Den)])] (.d (.bool r)) := by
  unfold m_rate_above at h
  refine PureFn.intro2 Tryd.func56 (by rfl) (by rw [Tryd.ntmps56]; simp) ?_
  rw [Tryd.ntmps56]
  simp only [argEnv, reduceCtorEq, ↓reduceIte, Nat.reduceAdd, Nat.reduceMul, Nat.reduceLT, Nat.reduceLeDiff, Nat.reduceEqDiff, Nat.reduceBEq, Int.reduceToNat]
  refine AWp.seq fun K_1 hK_1 => AWp.reg ?_
  iterate 3 (refine AOps.consU fun K' hK' => ?_; simp (disch := omega) only [go_sem, reduceCtorEq, ↓reduceIte, Nat.reduceAdd, Nat.reduceMul, Nat.reduceLT, Nat.reduceLeDiff, Nat.reduceEqDiff, Nat.reduceBEq, Int.reduceToNat]; refine hK' _ ?_; clear hK' K')
  refine AOps.nil ?_
  simp only [Post.then]
  refine hK_1 _ ?_
  clear hK_1 K_1
  refine AWp.seq fun K_2 hK_2 => AWp.reg ?_
  iterate 12 (refine AOps.consU fun K' hK' => ?_; simp (disch := omega) only [go_sem, reduceCtorEq, ↓reduceIte, Nat.reduceAdd, Nat.reduceMul, Nat.reduceLT, Nat.reduceLeDiff, Nat.reduceEqDiff, Nat.reduceBEq, Int.reduceToNat]; refine hK' _ ?_; clear hK' K')
  refine AOps.nil ?_
  simp only [Post.then]
  refine hK_2 _ ?_
  clear hK_2 K_2
  refine AWp.ret ?_
  simp only [Post.then, Post.inBlock, Go.Pv.Fin, Go.Pv.FinG]
  rw [← Option.some.inj h]
  refine ⟨.d (.bool (decide ((IntKind.i64.wrap (b1.Num * a1.Den)) < (IntKind.i64.wrap (a1.Num * b1.Den))))), ?_, (by first | exact True.intro | rfl), .d (.bool (decide ((IntKind.i64.wrap (b1.Num * a1.Den)) < (IntKind.i64.wrap (a1.Num * b1.Den))))), ?_, ?_⟩
  · simp only [go_sem, Tryd.results56, List.length_append, List.length_set, List.length_replicate, reduceCtorEq, ↓reduceIte, Nat.reduceAdd, Nat.reduceMul, Nat.reduceLT, Nat.reduceLeDiff, Nat.reduceEqDiff, Nat.reduceBEq, Int.reduceToNat]
  · simp only [go_sem, lenc_nil, List.take_length, List.length_append, List.length_set, List.length_replicate, reduceCtorEq, ↓reduceIte, Nat.reduceAdd, Nat.reduceMul, Nat.reduceLT, Nat.reduceLeDiff, Nat.reduceEqDiff, Nat.reduceBEq, Int.reduceToNat]
  · (first | exact leV_refl _ | (simp only [go_sem, leV, leVL, leD, leDL, lenc_nil, leD_refl, leDL_refl, lstD_le, reduceCtorEq, ↓reduceIte, Nat.reduceAdd, Nat.reduceMul, Nat.reduceLT, Nat.reduceLeDiff, Nat.reduceEqDiff, Nat.reduceBEq, Int.reduceToNat]; done))

end Go.Pv.Tryd

namespace Go.Pv.Tryd
open Go.Proofs Go.Pv

theorem m_cmp_isNaN_ok (x1 : Int) (r : Bool) (h : m_cmp_isNaN x1 = some r) : PureFn Tryd.prog G 113 [.d (.int .i64 x1)] (.d (.bool r)) := by
  unfold m_cmp_isNaN at h
  refine PureFn.intro2 Tryd.func113 (by rfl) (by rw [Tryd.ntmps113]; simp) ?_
  rw [Tryd.ntmps113]
  simp only [argEnv, reduceCtorEq, ↓reduceIte, Nat.reduceAdd, Nat.reduceMul, Nat.reduceLT, Nat.reduceLeDiff, Nat.reduceEqDiff, Nat.reduceBEq, Int.reduceToNat]
  refine AWp.seq fun K_1 hK_1 => AWp.reg ?_
  iterate 1 (refine AOps.consU fun K' hK' => ?_; simp (disch := omega) only [go_sem, reduceCtorEq, ↓reduceIte, Nat.reduceAdd, Nat.reduceMul, Nat.reduceLT, Nat.reduceLeDiff, Nat.reduceEqDiff, Nat.reduceBEq, Int.reduceToNat]; refine hK' _ ?_; clear hK' K')
  refine AOps.nil ?_
  simp only [Post.then]
  refine hK_1 _ ?_
  clear hK_1 K_1
  refine AWp.seq fun K_2 hK_2 => AWp.reg ?_
  iterate 4 (refine AOps.consU fun K' hK' => ?_; simp (disch := omega) only [go_sem, reduceCtorEq, ↓reduceIte, Nat.reduceAdd, Nat.reduceMul, Nat.reduceLT, Nat.reduceLeDiff, Nat.reduceEqDiff, Nat.reduceBEq, Int.reduceToNat]; refine hK' _ ?_; clear hK' K')
  refine AOps.nil ?_
  simp only [Post.then]
  refine hK_2 _ ?_
  clear hK_2 K_2
  refine AWp.ret ?_
  simp only [Post.then, Post.inBlock, Go.Pv.Fin, Go.Pv.FinG]
  rw [← Option.some.inj h]
  refine ⟨.d (.bool (decide (¬x1 = x1))), ?_, (by first | exact True.intro | rfl), .d (.bool (decide (¬x1 = x1))), ?_, ?_⟩
  · simp only [go_sem, Tryd.results113, List.length_append, List.length_set, List.length_replicate, reduceCtorEq, ↓reduceIte, Nat.reduceAdd, Nat.reduceMul, Nat.reduceLT, Nat.reduceLeDiff, Nat.reduceEqDiff, Nat.reduceBEq, Int.reduceToNat]
  · simp only [go_sem, lenc_nil, List.take_length, List.length_append, List.length_set, List.length_replicate, reduceCtorEq, ↓reduceIte, Nat.reduceAdd, Nat.reduceMul, Nat.reduceLT, Nat.reduceLeDiff, Nat.reduceEqDiff, Nat.reduceBEq, Int.reduceToNat]
  · (first | exact leV_refl _ | (simp only [go_sem, leV, leVL, leD, leDL, lenc_nil, leD_refl, leDL_refl, lstD_le, reduceCtorEq, ↓reduceIte, Nat.reduceAdd, Nat.reduceMul, Nat.reduceLT, Nat.reduceLeDiff, Nat.reduceEqDiff, Nat.reduceBEq, Int.reduceToNat]; done))

end Go.Pv.Tryd

namespace Go.Pv.Tryd
open Go.Proofs Go.Pv

theorem m_cmp_Compare_ok (x1 : Int) (y1 : Int) (r : Int) (h : m_cmp_Compare x1 y1 = some r) : PureFn Tryd.prog G 97 [.d (.int .i64 x1), .d (.int .i64 y1)] (.d (.int .i64 r)) := by
  unfold m_cmp_Compare at h
  refine PureFn.intro2 Tryd.func97 (by rfl) (by rw [Tryd.ntmps97]; simp) ?_
  rw [Tryd.ntmps97]
  simp only [argEnv, reduceCtorEq, ↓reduceIte, Nat.reduceAdd, Nat.reduceMul, Nat.reduceLT, Nat.reduceLeDiff, Nat.reduceEqDiff, Nat.reduceBEq, Int.reduceToNat]
  refine AWp.seq fun K_1 hK_1 => AWp.reg ?_
  iterate 1 (refine AOps.consU fun K' hK' => ?_; simp (disch := omega) only [go_sem, reduceCtorEq, ↓reduceIte, Nat.reduceAdd, Nat.reduceMul, Nat.reduceLT, Nat.reduceLeDiff, Nat.reduceEqDiff, Nat.reduceBEq, Int.reduceToNat]; refine hK' _ ?_; clear hK' K')
  refine AOps.nil ?_
  simp only [Post.then]
  refine hK_1 _ ?_
  clear hK_1 K_1
  refine AWp.seq fun K_2 hK_2 => AWp.reg ?_
  iterate 1 (refine AOps.consU fun K' hK' => ?_; simp (disch := omega) only [go_sem, reduceCtorEq, ↓reduceIte, Nat.reduceAdd, Nat.reduceMul, Nat.reduceLT, Nat.reduceLeDiff, Nat.reduceEqDiff, Nat.reduceBEq, Int.reduceToNat]; refine hK' _ ?_; clear hK' K')
  obtain ⟨r1, hx_3, h⟩ := bind_some h
  refine AOps.consU fun K' hK' => ?_; simp (disch := omega) only [go_sem, reduceCtorEq, ↓reduceIte, Nat.reduceAdd, Nat.reduceMul, Nat.reduceLT, Nat.reduceLeDiff, Nat.reduceEqDiff, Nat.reduceBEq, Int.reduceToNat]; refine OpT.call (by rfl) (by rfl) (by kernel_rfl) (m_cmp_isNaN_ok x1 _ hx_3) (by exact ⟨rfl, trivial⟩) (by simp only [go_sem, reduceCtorEq, ↓reduceIte, Nat.reduceAdd, Nat.reduceMul, Nat.reduceLT, Nat.reduceLeDiff, Nat.reduceEqDiff, Nat.reduceBEq, Int.reduceToNat]) ?_ (by simp only [go_sem]); simp only [go_sem, reduceCtorEq, ↓reduceIte, Nat.reduceAdd, Nat.reduceMul, Nat.reduceLT, Nat.reduceLeDiff, Nat.reduceEqDiff, Nat.reduceBEq, Int.reduceToNat]; refine hK' _ ?_; clear hK' K'
  iterate 1 (refine AOps.consU fun K' hK' => ?_; simp (disch := omega) only [go_sem, reduceCtorEq, ↓reduceIte, Nat.reduceAdd, Nat.reduceMul, Nat.reduceLT, Nat.reduceLeDiff, Nat.reduceEqDiff, Nat.reduceBEq, Int.reduceToNat]; refine hK' _ ?_; clear hK' K')
  refine AOps.nil ?_
  simp only [Post.then]
  refine hK_2 _ ?_
  clear hK_2 K_2
  refine AWp.seq fun K_4 hK_4 => AWp.reg ?_
  iterate 1 (refine AOps.consU fun K' hK' => ?_; simp (disch := omega) only [go_sem, reduceCtorEq, ↓reduceIte, Nat.reduceAdd, Nat.reduceMul, Nat.reduceLT, Nat.reduceLeDiff, Nat.reduceEqDiff, Nat.reduceBEq, Int.reduceToNat]; refine hK' _ ?_; clear hK' K')
  obtain ⟨r2, hx_5, h⟩ := bind_some h
  refine AOps.consU fun K' hK' => ?_; simp (disch := omega) only [go_sem, reduceCtorEq, ↓reduceIte, Nat.reduceAdd, Nat.reduceMul, Nat.reduceLT, Nat.reduceLeDiff, Nat.reduceEqDiff, Nat.reduceBEq, Int.reduceToNat]; refine OpT.call (by rfl) (by rfl) (by kernel_rfl) (m_cmp_isNaN_ok y1 _ hx_5) (by exact ⟨rfl, trivial⟩) (by simp only [go_sem, reduceCtorEq, ↓reduceIte, Nat.reduceAdd, Nat.reduceMul, Nat.reduceLT, Nat.reduceLeDiff, Nat.reduceEqDiff, Nat.reduceBEq, Int.reduceToNat]) ?_ (by simp only [go_sem]); simp only [go_sem, reduceCtorEq, ↓reduceIte, Nat.reduceAdd, Nat.reduceMul, Nat.reduceLT, Nat.reduceLeDiff, Nat.reduceEqDiff, Nat.reduceBEq, Int.reduceToNat]; refine hK' _ ?_; clear hK' K'
  iterate 1 (refine AOps.consU fun K' hK' => ?_; simp (disch := omega) only [go_sem, reduceCtorEq, ↓reduceIte, Nat.reduceAdd, Nat.reduceMul, Nat.reduceLT, Nat.reduceLeDiff, Nat.reduceEqDiff, Nat.reduceBEq, Int.reduceToNat]; refine hK' _ ?_; clear hK' K')
  refine AOps.nil ?_
  simp only [Post.then]
  refine hK_4 _ ?_
  clear hK_4 K_4
  refine AWp.seq fun K_6 hK_6 => ?_
  refine AWp.seq fun K_7 hK_7 => AWp.reg ?_
  iterate 1 (refine AOps.consU fun K' hK' => ?_; simp (disch := omega) only [go_sem, reduceCtorEq, ↓reduceIte, Nat.reduceAdd, Nat.reduceMul, Nat.reduceLT, Nat.reduceLeDiff, Nat.reduceEqDiff, Nat.reduceBEq, Int.reduceToNat]; refine hK' _ ?_; clear hK' K')
  refine AOps.nil ?_
  simp only [Post.then]
  refine hK_7 _ ?_
  clear hK_7 K_7
  refine AWp.cond (b := r1) (by rfl) (fun hb_8 => ?_) (fun hb_8 => ?_)
  · rw [hb_8, cond_true] at h
    refine AWp.seq fun K_9 hK_9 => ?_
    refine AWp.seq fun K_10 hK_10 => AWp.reg ?_
    iterate 1 (refine AOps.consU fun K' hK' => ?_; simp (disch := omega) only [go_sem, reduceCtorEq, ↓reduceIte, Nat.reduceAdd, Nat.reduceMul, Nat.reduceLT, Nat.reduceLeDiff, Nat.reduceEqDiff, Nat.reduceBEq, Int.reduceToNat]; refine hK' _ ?_; clear hK' K')
    refine AOps.nil ?_
    simp only [Post.then]
    refine hK_10 _ ?_
    clear hK_10 K_10
    refine AWp.cond (b := r2) (by rfl) (fun hb_11 => ?_) (fun hb_11 => ?_)
    · rw [hb_11, cond_true] at h
      refine AWp.seq fun K_12 hK_12 => AWp.reg ?_
      iterate 1 (refine AOps.consU fun K' hK' => ?_; simp (disch := omega) only [go_sem, reduceCtorEq, ↓reduceIte, Nat.reduceAdd, Nat.reduceMul, Nat.reduceLT, Nat.reduceLeDiff, Nat.reduceEqDiff, Nat.reduceBEq, Int.reduceToNat]; refine hK' _ ?_; clear hK' K')
      refine AOps.nil ?_
      simp only [Post.then]
      refine hK_12 _ ?_
      clear hK_12 K_12
      refine AWp.ret ?_
      simp only [Post.then, Post.inBlock, Go.Pv.Fin, Go.Pv.FinG]
      rw [← Option.some.inj h]
      refine ⟨.d (.int .i64 0), ?_, (by first | exact True.intro | rfl), .d (.int .i64 0), ?_, ?_⟩
      · simp only [go_sem, Tryd.results97, List.length_append, List.length_set, List.length_replicate, reduceCtorEq, ↓reduceIte, Nat.reduceAdd, Nat.reduceMul, Nat.reduceLT, Nat.reduceLeDiff, Nat.reduceEqDiff, Nat.reduceBEq, Int.reduceToNat]
      · simp only [go_sem, lenc_nil, List.take_length, List.length_append, List.length_set, List.length_replicate, reduceCtorEq, ↓reduceIte, Nat.reduceAdd, Nat.reduceMul, Nat.reduceLT, Nat.reduceLeDiff, Nat.reduceEqDiff, Nat.reduceBEq, Int.reduceToNat]
      · (first | exact leV_refl _ | (simp only [go_sem, leV, leVL, leD, leDL, lenc_nil, leD_refl, leDL_refl, lstD_le, reduceCtorEq, ↓reduceIte, Nat.reduceAdd, Nat.reduceMul, Nat.reduceLT, Nat.reduceLeDiff, Nat.reduceEqDiff, Nat.reduceBEq, Int.reduceToNat]; done))
    · rw [hb_11, cond_false] at h
      refine AWp.skip ?_
      simp only [Post.then, Post.inBlock, ↓reduceIte, Nat.reduceEqDiff]
      refine hK_9 _ ?_
      clear hK_9 K_9
      refine AWp.seq fun K_13 hK_13 => AWp.reg ?_
      iterate 1 (refine AOps.consU fun K' hK' => ?_; simp (disch := omega) only [go_sem, reduceCtorEq, ↓reduceIte, Nat.reduceAdd, Nat.reduceMul, Nat.reduceLT, Nat.reduceLeDiff, Nat.reduceEqDiff, Nat.reduceBEq, Int.reduceToNat]; refine hK' _ ?_; clear hK' K')
      refine AOps.nil ?_
      simp only [Post.then]
      refine hK_13 _ ?_
      clear hK_13 K_13
      refine AWp.ret ?_
      simp only [Post.then, Post.inBlock, Go.Pv.Fin, Go.Pv.FinG]
      rw [← Option.some.inj h]
      refine ⟨.d (.int .i64 (-1)), ?_, (by first | exact True.intro | rfl), .d (.int .i64 (-1)), ?_, ?_⟩
      · simp only [go_sem, Tryd.results97, List.length_append, List.length_set, List.length_replicate, reduceCtorEq, ↓reduceIte, Nat.reduceAdd, Nat.reduceMul, Nat.reduceLT, Nat.reduceLeDiff, Nat.reduceEqDiff, Nat.reduceBEq, Int.reduceToNat]
      · simp only [go_sem, lenc_nil, List.take_length, List.length_append, List.length_set, List.length_replicate, reduceCtorEq, ↓reduceIte, Nat.reduceAdd, Nat.reduceMul, Nat.reduceLT, Nat.reduceLeDiff, Nat.reduceEqDiff, Nat.reduceBEq, Int.reduceToNat]
      · (first | exact leV_refl _ | (simp only [go_sem, leV, leVL, leD, leDL, lenc_nil, leD_refl, leDL_refl, lstD_le, reduceCtorEq, ↓reduceIte, Nat.reduceAdd, Nat.reduceMul, Nat.reduceLT, Nat.reduceLeDiff, Nat.reduceEqDiff, Nat.reduceBEq, Int.reduceToNat]; done))
  · rw [hb_8, cond_false] at h
    refine AWp.skip ?_
    simp only [Post.then, Post.inBlock, ↓reduceIte, Nat.reduceEqDiff]
    refine hK_6 _ ?_
    clear hK_6 K_6
    refine AWp.seq fun K_14 hK_14 => ?_
    refine AWp.seq fun K_15 hK_15 => AWp.reg ?_
    iterate 1 (refine AOps.consU fun K' hK' => ?_; simp (disch := omega) only [go_sem, reduceCtorEq, ↓reduceIte, Nat.reduceAdd, Nat.reduceMul, Nat.reduceLT, Nat.reduceLeDiff, Nat.reduceEqDiff, Nat.reduceBEq, Int.reduceToNat]; refine hK' _ ?_; clear hK' K')
    refine AOps.nil ?_
    simp only [Post.then]
    refine hK_15 _ ?_
    clear hK_15 K_15
    refine AWp.cond (b := r2) (by rfl) (fun hb_16 => ?_) (fun hb_16 => ?_)
    · rw [hb_16, cond_true] at h
      refine AWp.seq fun K_17 hK_17 => AWp.reg ?_
      iterate 1 (refine AOps.consU fun K' hK' => ?_; simp (disch := omega) only [go_sem, reduceCtorEq, ↓reduceIte, Nat.reduceAdd, Nat.reduceMul, Nat.reduceLT, Nat.reduceLeDiff, Nat.reduceEqDiff, Nat.reduceBEq, Int.reduceToNat]; refine hK' _ ?_; clear hK' K')
      refine AOps.nil ?_
      simp only [Post.then]
      refine hK_17 _ ?_
      clear hK_17 K_17
      refine AWp.ret ?_
      simp only [Post.then, Post.inBlock, Go.Pv.Fin, Go.Pv.FinG]
      rw [← Option.some.inj h]
      refine ⟨.d (.int .i64 1), ?_, (by first | exact True.intro | rfl), .d (.int .i64 1), ?_, ?_⟩
      · simp only [go_sem, Tryd.results97, List.length_append, List.length_set, List.length_replicate, reduceCtorEq, ↓reduceIte, Nat.reduceAdd, Nat.reduceMul, Nat.reduceLT, Nat.reduceLeDiff, Nat.reduceEqDiff, Nat.reduceBEq, Int.reduceToNat]
      · simp only [go_sem, lenc_nil, List.take_length, List.length_append, List.length_set, List.length_replicate, reduceCtorEq, ↓reduceIte, Nat.reduceAdd, Nat.reduceMul, Nat.reduceLT, Nat.reduceLeDiff, Nat.reduceEqDiff, Nat.reduceBEq, Int.reduceToNat]
      · (first | exact leV_refl _ | (simp only [go_sem, leV, leVL, leD, leDL, lenc_nil, leD_refl, leDL_refl, lstD_le, reduceCtorEq, ↓reduceIte, Nat.reduceAdd, Nat.reduceMul, Nat.reduceLT, Nat.reduceLeDiff, Nat.reduceEqDiff, Nat.reduceBEq, Int.reduceToNat]; done))
    · rw [hb_16, cond_false] at h
      refine AWp.skip ?_
      simp only [Post.then, Post.inBlock, ↓reduceIte, Nat.reduceEqDiff]
      refine hK_14 _ ?_
      clear hK_14 K_14
      refine AWp.seq fun K_18 hK_18 => ?_
      refine AWp.seq fun K_19 hK_19 => AWp.reg ?_
      iterate 3 (refine AOps.consU fun K' hK' => ?_; simp (disch := omega) only [go_sem, reduceCtorEq, ↓reduceIte, Nat.reduceAdd, Nat.reduceMul, Nat.reduceLT, Nat.reduceLeDiff, Nat.reduceEqDiff, Nat.reduceBEq, Int.reduceToNat]; refine hK' _ ?_; clear hK' K')
      refine AOps.nil ?_
      simp only [Post.then]
      refine hK_19 _ ?_
      clear hK_19 K_19
      refine AWp.cond (b := (decide (x1 < y1))) (by rfl) (fun hb_20 => ?_) (fun hb_20 => ?_)
      · rw [hb_20, cond_true] at h
        refine AWp.seq fun K_21 hK_21 => AWp.reg ?_
        iterate 1 (refine AOps.consU fun K' hK' => ?_; simp (disch := omega) only [go_sem, reduceCtorEq, ↓reduceIte, Nat.reduceAdd, Nat.reduceMul, Nat.reduceLT, Nat.reduceLeDiff, Nat.reduceEqDiff, Nat.reduceBEq, Int.reduceToNat]; refine hK' _ ?_; clear hK' K')
        refine AOps.nil ?_
        simp only [Post.then]
        refine hK_21 _ ?_
        clear hK_21 K_21
        refine AWp.ret ?_
        simp only [Post.then, Post.inBlock, Go.Pv.Fin, Go.Pv.FinG]
        rw [← Option.some.inj h]
        refine ⟨.d (.int .i64 (-1)), ?_, (by first | exact True.intro | rfl), .d (.int .i64 (-1)), ?_, ?_⟩
        · simp only [go_sem, Tryd.results97, List.length_append, List.length_set, List.length_replicate, reduceCtorEq, ↓reduceIte, Nat.reduceAdd, Nat.reduceMul, Nat.reduceLT, Nat.reduceLeDiff, Nat.reduceEqDiff, Nat.reduceBEq, Int.reduceToNat]
        · simp only [go_sem, lenc_nil, List.take_length, List.length_append, List.length_set, List.length_replicate, reduceCtorEq, ↓reduceIte, Nat.reduceAdd, Nat.reduceMul, Nat.reduceLT, Nat.reduceLeDiff, Nat.reduceEqDiff, Nat.reduceBEq, Int.reduceToNat]
        · (first | exact leV_refl _ | (simp only [go_sem, leV, leVL, leD, leDL, lenc_nil, leD_refl, leDL_refl, lstD_le, reduceCtorEq, ↓reduceIte, Nat.reduceAdd, Nat.reduceMul, Nat.reduceLT, Nat.reduceLeDiff, Nat.reduceEqDiff, Nat.reduceBEq, Int.reduceToNat]; done))
      · rw [hb_20, cond_false] at h
        refine AWp.skip ?_
        simp only [Post.then, Post.inBlock, ↓reduceIte, Nat.reduceEqDiff]
        refine hK_18 _ ?_
        clear hK_18 K_18
        refine AWp.seq fun K_22 hK_22 => ?_
        refine AWp.seq fun K_23 hK_23 => AWp.reg ?_
        iterate 3 (refine AOps.consU fun K' hK' => ?_; simp (disch := omega) only [go_sem, reduceCtorEq, ↓reduceIte, Nat.reduceAdd, Nat.reduceMul, Nat.reduceLT, Nat.reduceLeDiff, Nat.reduceEqDiff, Nat.reduceBEq, Int.reduceToNat]; refine hK' _ ?_; clear hK' K')
        refine AOps.nil ?_
        simp only [Post.then]
        refine hK_23 _ ?_
        clear hK_23 K_23
        refine AWp.cond (b := (decide (y1 < x1))) (by rfl) (fun hb_24 => ?_) (fun hb_24 => ?_)
        · rw [hb_24, cond_true] at h
          refine AWp.seq fun K_25 hK_25 => AWp.reg ?_
          iterate 1 (refine AOps.consU fun K' hK' => ?_; simp (disch := omega) only [go_sem, reduceCtorEq, ↓reduceIte, Nat.reduceAdd, Nat.reduceMul, Nat.reduceLT, Nat.reduceLeDiff, Nat.reduceEqDiff, Nat.reduceBEq, Int.reduceToNat]; refine hK' _ ?_; clear hK' K')
          refine AOps.nil ?_
          simp only [Post.then]
          refine hK_25 _ ?_
          clear hK_25 K_25
          refine AWp.ret ?_
          simp only [Post.then, Post.inBlock, Go.Pv.Fin, Go.Pv.FinG]
          rw [← Option.some.inj h]
          refine ⟨.d (.int .i64 1), ?_, (by first | exact True.intro | rfl), .d (.int .i64 1), ?_, ?_⟩
          · simp only [go_sem, Tryd.results97, List.length_append, List.length_set, List.length_replicate, reduceCtorEq, ↓reduceIte, Nat.reduceAdd, Nat.reduceMul, Nat.reduceLT, Nat.reduceLeDiff, Nat.reduceEqDiff, Nat.reduceBEq, Int.reduceToNat]
          · simp only [go_sem, lenc_nil, List.take_length, List.length_append, List.length_set, List.length_replicate, reduceCtorEq, ↓reduceIte, Nat.reduceAdd, Nat.reduceMul, Nat.reduceLT, Nat.reduceLeDiff, Nat.reduceEqDiff, Nat.reduceBEq, Int.reduceToNat]
          · (first | exact leV_refl _ | (simp only [go_sem, leV, leVL, leD, leDL, lenc_nil, leD_refl, leDL_refl, lstD_le, reduceCtorEq, ↓reduceIte, Nat.reduceAdd, Nat.reduceMul, Nat.reduceLT, Nat.reduceLeDiff, Nat.reduceEqDiff, Nat.reduceBEq, Int.reduceToNat]; done))
        · rw [hb_24, cond_false] at h
          refine AWp.skip ?_
          simp only [Post.then, Post.inBlock, ↓reduceIte, Nat.reduceEqDiff]
          refine hK_22 _ ?_
          clear hK_22 K_22
          refine AWp.seq fun K_26 hK_26 => AWp.reg ?_
          iterate 1 (refine AOps.consU fun K' hK' => ?_; simp (disch := omega) only [go_sem, reduceCtorEq, ↓reduceIte, Nat.reduceAdd, Nat.reduceMul, Nat.reduceLT, Nat.reduceLeDiff, Nat.reduceEqDiff, Nat.reduceBEq, Int.reduceToNat]; refine hK' _ ?_; clear hK' K')
          refine AOps.nil ?_
          simp only [Post.then]
          refine hK_26 _ ?_
          clear hK_26 K_26
          refine AWp.ret ?_
          simp only [Post.then, Post.inBlock, Go.Pv.Fin, Go.Pv.FinG]
          rw [← Option.some.inj h]
          refine ⟨.d (.int .i64 0), ?_, (by first | exact True.intro | rfl), .d (.int .i64 0), ?_, ?_⟩
          · simp only [go_sem, Tryd.results97, List.length_append, List.length_set, List.length_replicate, reduceCtorEq, ↓reduceIte, Nat.reduceAdd, Nat.reduceMul, Nat.reduceLT, Nat.reduceLeDiff, Nat.reduceEqDiff, Nat.reduceBEq, Int.reduceToNat]
          · simp only [go_sem, lenc_nil, List.take_length, List.length_append, List.length_set, List.length_replicate, reduceCtorEq, ↓reduceIte, Nat.reduceAdd, Nat.reduceMul, Nat.reduceLT, Nat.reduceLeDiff, Nat.reduceEqDiff, Nat.reduceBEq, Int.reduceToNat]
          · (first | exact leV_refl _ | (simp only [go_sem, leV, leVL, leD, leDL, lenc_nil, leD_refl, leDL_refl, lstD_le, reduceCtorEq, ↓reduceIte, Nat.reduceAdd, Nat.reduceMul, Nat.reduceLT, Nat.reduceLeDiff, Nat.reduceEqDiff, Nat.reduceBEq, Int.reduceToNat]; done))

end Go.Pv.Tryd

namespace Go.Pv.Tryd
open Go.Proofs Go.Pv

theorem m_slices_Compare_ok (s11 : (List Int)) (s21 : (List Int)) (r : Int) (h : m_slices_Compare s11 s21 = some r) : PureFn Tryd.prog G 81 [.d (.imm 1 (lenc (PD.int .i64) s11)), .d (.imm 1 (lenc (PD.int .i64) s21))] (.d (.int .i64 r)) := by
  unfold m_slices_Compare at h
  refine PureFn.intro2 Tryd.func81 (by rfl) (by rw [Tryd.ntmps81]; simp) ?_
  rw [Tryd.ntmps81]
  simp only [argEnv, reduceCtorEq, ↓reduceIte, Nat.reduceAdd, Nat.reduceMul, Nat.reduceLT, Nat.reduceLeDiff, Nat.reduceEqDiff, Nat.reduceBEq, Int.reduceToNat]
  refine AWp.seq fun K_1 hK_1 => AWp.reg ?_
  iterate 1 (refine AOps.consU fun K' hK' => ?_; simp (disch := omega) only [go_sem, reduceCtorEq, ↓reduceIte, Nat.reduceAdd, Nat.reduceMul, Nat.reduceLT, Nat.reduceLeDiff, Nat.reduceEqDiff, Nat.reduceBEq, Int.reduceToNat]; refine hK' _ ?_; clear hK' K')
  refine AOps.nil ?_
  simp only [Post.then]
  refine hK_1 _ ?_
  clear hK_1 K_1
  obtain ⟨o_2, hj_3, h⟩ := bind_some h
  refine AWp.seqI (fun i_43 : Unit => ⟨[(0, .d (.imm 1 (lenc (PD.int .i64) s11))), (1, .d (.imm 1 (lenc (PD.int .i64) s21)))], [], [], none⟩) (fun i_43 => o_2 = (.inl i_43)) ?_ ?_
  · refine AWp.seq fun K_4 hK_4 => AWp.reg ?_
    iterate 3 (refine AOps.consU fun K' hK' => ?_; simp (disch := omega) only [go_sem, reduceCtorEq, ↓reduceIte, Nat.reduceAdd, Nat.reduceMul, Nat.reduceLT, Nat.reduceLeDiff, Nat.reduceEqDiff, Nat.reduceBEq, Int.reduceToNat]; refine hK' _ ?_; clear hK' K')
    refine AOps.nil ?_
    simp only [Post.then]
    refine hK_4 _ ?_
    clear hK_4 K_4
    refine AWp.block ?_
    obtain ⟨x_9, hl_6, h2_7⟩ := bind_some hj_3
    obtain ⟨n_5, hl_6⟩ := iter_some hl_6
    refine AWp.loopI (fun i_37 : Nat × Int => ⟨[(0, .d (.imm 1 (lenc (PD.int .i64) s11))), (1, .d (.imm 1 (lenc (PD.int .i64) s21))), (9, .d (.imm 1 (lenc (PD.int .i64) s11))), (10, .d (.int .i64 (s11.length : Int))), (11, .d (.int .i64 i_37.2))], [], [], none⟩) (fun i_37 => iterN (m_slices_Compare_l1 s11 s21) i_37.1 i_37.2 = some x_9) (fun i_37 => i_37.1) (n_5, 0) hl_6 (Sub.mk ⟨rfl, rfl, rfl, rfl, rfl, trivial⟩ trivial ⟨trivial, trivial, trivial, trivial, trivial, trivial⟩ trivial ⟨rfl, trivial, rfl⟩) ?_
    clear hl_6
    rintro ⟨n_5, v1⟩ hl_6
    try dsimp only at hl_6
    try dsimp only
    cases n_5 with
    | zero => cases hl_6
    | succ n_5 =>
      rw [iterN_succ] at hl_6
      obtain ⟨ob_10, hb_8, hl_6⟩ := bind_some hl_6
      unfold m_slices_Compare_l1 at hb_8
      try dsimp only at hb_8
      refine AWp.seq fun K_11 hK_11 => AWp.reg ?_
      iterate 1 (refine AOps.consU fun K' hK' => ?_; simp (disch := omega) only [go_sem, reduceCtorEq, ↓reduceIte, Nat.reduceAdd, Nat.reduceMul, Nat.reduceLT, Nat.reduceLeDiff, Nat.reduceEqDiff, Nat.reduceBEq, Int.reduceToNat]; refine hK' _ ?_; clear hK' K')
      refine AOps.nil ?_
      simp only [Post.then]
      refine hK_11 _ ?_
      clear hK_11 K_11
      refine AWp.seq fun K_12 hK_12 => ?_
      refine AWp.cond (b := (decide (v1 < (s11.length : Int)))) (by rfl) (fun hb_13 => ?_) (fun hb_13 => ?_)
      · rw [hb_13, cond_true] at hb_8
        refine AWp.skip ?_
        simp only [Post.then, Post.inBlock, ↓reduceIte, Nat.reduceEqDiff]
        refine hK_12 _ ?_
        clear hK_12 K_12
        refine AWp.seq fun K_14 hK_14 => ?_
        refine AWp.block ?_
        refine AWp.seq fun K_15 hK_15 => AWp.reg ?_
        obtain ⟨e1, hx_16, hb_8⟩ := bind_some hb_8
        obtain ⟨f_17, f_18, f_19, f_20⟩ := idx_some hx_16
        iterate 5 (refine AOps.consU fun K' hK' => ?_; simp (disch := omega) only [go_sem, f_19, reduceCtorEq, ↓reduceIte, Nat.reduceAdd, Nat.reduceMul, Nat.reduceLT, Nat.reduceLeDiff, Nat.reduceEqDiff, Nat.reduceBEq, Int.reduceToNat]; refine hK' _ ?_; clear hK' K')
        refine AOps.nil ?_
        simp only [Post.then]
        refine hK_15 _ ?_
        clear hK_15 K_15
        refine AWp.seq fun K_21 hK_21 => ?_
        refine AWp.seq fun K_22 hK_22 => AWp.reg ?_
        iterate 4 (refine AOps.consU fun K' hK' => ?_; simp (disch := omega) only [go_sem, reduceCtorEq, ↓reduceIte, Nat.reduceAdd, Nat.reduceMul, Nat.reduceLT, Nat.reduceLeDiff, Nat.reduceEqDiff, Nat.reduceBEq, Int.reduceToNat]; refine hK' _ ?_; clear hK' K')
        refine AOps.nil ?_
        simp only [Post.then]
        refine hK_22 _ ?_
        clear hK_22 K_22
        refine AWp.cond (b := (decide ((s21.length : Int) ≤ v1))) (by rfl) (fun hb_23 => ?_) (fun hb_23 => ?_)
        · rw [hb_23, cond_true] at hb_8
          refine AWp.seq fun K_24 hK_24 => AWp.reg ?_
          iterate 1 (refine AOps.consU fun K' hK' => ?_; simp (disch := omega) only [go_sem, reduceCtorEq, ↓reduceIte, Nat.reduceAdd, Nat.reduceMul, Nat.reduceLT, Nat.reduceLeDiff, Nat.reduceEqDiff, Nat.reduceBEq, Int.reduceToNat]; refine hK' _ ?_; clear hK' K')
          refine AOps.nil ?_
          simp only [Post.then]
          refine hK_24 _ ?_
          clear hK_24 K_24
          refine AWp.ret ?_
          simp only [Post.then, Post.inBlock, Go.Pv.Fin, Go.Pv.FinG]
          rw [← Option.some.inj hb_8] at hl_6
          try dsimp only at hl_6
          rw [← Option.some.inj hl_6] at h2_7
          try dsimp only at h2_7
          rw [← Option.some.inj h2_7] at h
          try dsimp only at h
          rw [← Option.some.inj h]
          refine ⟨.d (.int .i64 1), ?_, (by first | exact True.intro | rfl), .d (.int .i64 1), ?_, ?_⟩
          · simp only [go_sem, Tryd.results81, List.length_append, List.length_set, List.length_replicate, reduceCtorEq, ↓reduceIte, Nat.reduceAdd, Nat.reduceMul, Nat.reduceLT, Nat.reduceLeDiff, Nat.reduceEqDiff, Nat.reduceBEq, Int.reduceToNat]
          · simp only [go_sem, lenc_nil, List.take_length, List.length_append, List.length_set, List.length_replicate, reduceCtorEq, ↓reduceIte, Nat.reduceAdd, Nat.reduceMul, Nat.reduceLT, Nat.reduceLeDiff, Nat.reduceEqDiff, Nat.reduceBEq, Int.reduceToNat]
          · (first | exact leV_refl _ | (simp only [go_sem, leV, leVL, leD, leDL, lenc_nil, leD_refl, leDL_refl, lstD_le, reduceCtorEq, ↓reduceIte, Nat.reduceAdd, Nat.reduceMul, Nat.reduceLT, Nat.reduceLeDiff, Nat.reduceEqDiff, Nat.reduceBEq, Int.reduceToNat]; done))
        · rw [hb_23, cond_false] at hb_8
          refine AWp.skip ?_
          simp only [Post.then, Post.inBlock, ↓reduceIte, Nat.reduceEqDiff]
          refine hK_21 _ ?_
          clear hK_21 K_21
          refine AWp.seq fun K_25 hK_25 => AWp.reg ?_
          obtain ⟨e2, hx_26, hb_8⟩ := bind_some hb_8
          obtain ⟨f_27, f_28, f_29, f_30⟩ := idx_some hx_26
          iterate 5 (refine AOps.consU fun K' hK' => ?_; simp (disch := omega) only [go_sem, f_29, reduceCtorEq, ↓reduceIte, Nat.reduceAdd, Nat.reduceMul, Nat.reduceLT, Nat.reduceLeDiff, Nat.reduceEqDiff, Nat.reduceBEq, Int.reduceToNat]; refine hK' _ ?_; clear hK' K')
          refine AOps.nil ?_
          simp only [Post.then]
          refine hK_25 _ ?_
          clear hK_25 K_25
          refine AWp.seq fun K_31 hK_31 => AWp.reg ?_
          iterate 2 (refine AOps.consU fun K' hK' => ?_; simp (disch := omega) only [go_sem, reduceCtorEq, ↓reduceIte, Nat.reduceAdd, Nat.reduceMul, Nat.reduceLT, Nat.reduceLeDiff, Nat.reduceEqDiff, Nat.reduceBEq, Int.reduceToNat]; refine hK' _ ?_; clear hK' K')
          obtain ⟨r1, hx_32, hb_8⟩ := bind_some hb_8
          refine AOps.consU fun K' hK' => ?_; simp (disch := omega) only [go_sem, reduceCtorEq, ↓reduceIte, Nat.reduceAdd, Nat.reduceMul, Nat.reduceLT, Nat.reduceLeDiff, Nat.reduceEqDiff, Nat.reduceBEq, Int.reduceToNat]; refine OpT.call (by rfl) (by rfl) (by kernel_rfl) (m_cmp_Compare_ok e1 e2 _ hx_32) (by exact ⟨rfl, rfl, trivial⟩) (by simp only [go_sem, reduceCtorEq, ↓reduceIte, Nat.reduceAdd, Nat.reduceMul, Nat.reduceLT, Nat.reduceLeDiff, Nat.reduceEqDiff, Nat.reduceBEq, Int.reduceToNat]) ?_ (by simp only [go_sem]); simp only [go_sem, reduceCtorEq, ↓reduceIte, Nat.reduceAdd, Nat.reduceMul, Nat.reduceLT, Nat.reduceLeDiff, Nat.reduceEqDiff, Nat.reduceBEq, Int.reduceToNat]; refine hK' _ ?_; clear hK' K'
          iterate 1 (refine AOps.consU fun K' hK' => ?_; simp (disch := omega) only [go_sem, reduceCtorEq, ↓reduceIte, Nat.reduceAdd, Nat.reduceMul, Nat.reduceLT, Nat.reduceLeDiff, Nat.reduceEqDiff, Nat.reduceBEq, Int.reduceToNat]; refine hK' _ ?_; clear hK' K')
          refine AOps.nil ?_
          simp only [Post.then]
          refine hK_31 _ ?_
          clear hK_31 K_31
          refine AWp.seq fun K_33 hK_33 => AWp.reg ?_
          iterate 2 (refine AOps.consU fun K' hK' => ?_; simp (disch := omega) only [go_sem, reduceCtorEq, ↓reduceIte, Nat.reduceAdd, Nat.reduceMul, Nat.reduceLT, Nat.reduceLeDiff, Nat.reduceEqDiff, Nat.reduceBEq, Int.reduceToNat]; refine hK' _ ?_; clear hK' K')
          refine AOps.nil ?_
          simp only [Post.then]
          refine hK_33 _ ?_
          clear hK_33 K_33
          refine AWp.cond (b := (decide (¬r1 = 0))) (by rfl) (fun hb_34 => ?_) (fun hb_34 => ?_)
          · rw [hb_34, cond_true] at hb_8
            refine AWp.seq fun K_35 hK_35 => AWp.reg ?_
            iterate 2 (refine AOps.consU fun K' hK' => ?_; simp (disch := omega) only [go_sem, reduceCtorEq, ↓reduceIte, Nat.reduceAdd, Nat.reduceMul, Nat.reduceLT, Nat.reduceLeDiff, Nat.reduceEqDiff, Nat.reduceBEq, Int.reduceToNat]; refine hK' _ ?_; clear hK' K')
            refine AOps.nil ?_
            simp only [Post.then]
            refine hK_35 _ ?_
            clear hK_35 K_35
            refine AWp.ret ?_
            simp only [Post.then, Post.inBlock, Go.Pv.Fin, Go.Pv.FinG]
            rw [← Option.some.inj hb_8] at hl_6
            try dsimp only at hl_6
            rw [← Option.some.inj hl_6] at h2_7
            try dsimp only at h2_7
            rw [← Option.some.inj h2_7] at h
            try dsimp only at h
            rw [← Option.some.inj h]
            refine ⟨.d (.int .i64 r1), ?_, (by first | exact True.intro | rfl), .d (.int .i64 r1), ?_, ?_⟩
            · simp only [go_sem, Tryd.results81, List.length_append, List.length_set, List.length_replicate, reduceCtorEq, ↓reduceIte, Nat.reduceAdd, Nat.reduceMul, Nat.reduceLT, Nat.reduceLeDiff, Nat.reduceEqDiff, Nat.reduceBEq, Int.reduceToNat]
            · simp only [go_sem, lenc_nil, List.take_length, List.length_append, List.length_set, List.length_replicate, reduceCtorEq, ↓reduceIte, Nat.reduceAdd, Nat.reduceMul, Nat.reduceLT, Nat.reduceLeDiff, Nat.reduceEqDiff, Nat.reduceBEq, Int.reduceToNat]
            · (first | exact leV_refl _ | (simp only [go_sem, leV, leVL, leD, leDL, lenc_nil, leD_refl, leDL_refl, lstD_le, reduceCtorEq, ↓reduceIte, Nat.reduceAdd, Nat.reduceMul, Nat.reduceLT, Nat.reduceLeDiff, Nat.reduceEqDiff, Nat.reduceBEq, Int.reduceToNat]; done))
          · rw [hb_34, cond_false] at hb_8
            refine AWp.skip ?_
            simp only [Post.then, Post.inBlock, ↓reduceIte, Nat.reduceEqDiff]
            refine hK_14 _ ?_
            clear hK_14 K_14
            refine AWp.reg ?_
            iterate 2 (refine AOps.consU fun K' hK' => ?_; simp (disch := omega) only [go_sem, reduceCtorEq, ↓reduceIte, Nat.reduceAdd, Nat.reduceMul, Nat.reduceLT, Nat.reduceLeDiff, Nat.reduceEqDiff, Nat.reduceBEq, Int.reduceToNat]; refine hK' _ ?_; clear hK' K')
            refine AOps.nil ?_
            simp only [Post.then, Post.inBlock, ↓reduceIte, Nat.reduceEqDiff]
            rw [← Option.some.inj hb_8] at hl_6
            try dsimp only at hl_6
            exact ⟨(n_5, (IntKind.i64.wrap (v1 + 1))), hl_6, Nat.lt_succ_self n_5, (Sub.mk ⟨rfl, rfl, rfl, rfl, rfl, trivial⟩ trivial ⟨trivial, trivial, trivial, trivial, trivial, trivial⟩ trivial ⟨rfl, trivial, rfl⟩)⟩
      · rw [hb_13, cond_false] at hb_8
        refine AWp.exit ?_
        simp only [Post.then, Post.inBlock, ↓reduceIte, Nat.reduceEqDiff]
        rw [← Option.some.inj hb_8] at hl_6
        try dsimp only at hl_6
        rw [← Option.some.inj hl_6] at h2_7
        try dsimp only at h2_7
        exact ⟨(), (Option.some.inj h2_7).symm, (Sub.mk ⟨rfl, rfl, trivial⟩ trivial ⟨trivial, trivial, trivial⟩ trivial ⟨rfl, trivial, rfl⟩)⟩
  · rintro _ hx_44
    rw [hx_44] at h
    try dsimp only at h
    try dsimp only
    refine AWp.seq fun K_38 hK_38 => ?_
    refine AWp.seq fun K_39 hK_39 => AWp.reg ?_
    iterate 5 (refine AOps.consU fun K' hK' => ?_; simp (disch := omega) only [go_sem, reduceCtorEq, ↓reduceIte, Nat.reduceAdd, Nat.reduceMul, Nat.reduceLT, Nat.reduceLeDiff, Nat.reduceEqDiff, Nat.reduceBEq, Int.reduceToNat]; refine hK' _ ?_; clear hK' K')
    refine AOps.nil ?_
    simp only [Post.then]
    refine hK_39 _ ?_
    clear hK_39 K_39
    refine AWp.cond (b := (decide ((s11.length : Int) < (s21.length : Int)))) (by rfl) (fun hb_40 => ?_) (fun hb_40 => ?_)
    · rw [hb_40, cond_true] at h
      refine AWp.seq fun K_41 hK_41 => AWp.reg ?_
      iterate 1 (refine AOps.consU fun K' hK' => ?_; simp (disch := omega) only [go_sem, reduceCtorEq, ↓reduceIte, Nat.reduceAdd, Nat.reduceMul, Nat.reduceLT, Nat.reduceLeDiff, Nat.reduceEqDiff, Nat.reduceBEq, Int.reduceToNat]; refine hK' _ ?_; clear hK' K')
      refine AOps.nil ?_
      simp only [Post.then]
      refine hK_41 _ ?_
      clear hK_41 K_41
      refine AWp.ret ?_
      simp only [Post.then, Post.inBlock, Go.Pv.Fin, Go.Pv.FinG]
      rw [← Option.some.inj h]
      refine ⟨.d (.int .i64 (-1)), ?_, (by first | exact True.intro | rfl), .d (.int .i64 (-1)), ?_, ?_⟩
      · simp only [go_sem, Tryd.results81, List.length_append, List.length_set, List.length_replicate, reduceCtorEq, ↓reduceIte, Nat.reduceAdd, Nat.reduceMul, Nat.reduceLT, Nat.reduceLeDiff, Nat.reduceEqDiff, Nat.reduceBEq, Int.reduceToNat]
      · simp only [go_sem, lenc_nil, List.take_length, List.length_append, List.length_set, List.length_replicate, reduceCtorEq, ↓reduceIte, Nat.reduceAdd, Nat.reduceMul, Nat.reduceLT, Nat.reduceLeDiff, Nat.reduceEqDiff, Nat.reduceBEq, Int.reduceToNat]
      · (first | exact leV_refl _ | (simp only [go_sem, leV, leVL, leD, leDL, lenc_nil, leD_refl, leDL_refl, lstD_le, reduceCtorEq, ↓reduceIte, Nat.reduceAdd, Nat.reduceMul, Nat.reduceLT, Nat.reduceLeDiff, Nat.reduceEqDiff, Nat.reduceBEq, Int.reduceToNat]; done))
    · rw [hb_40, cond_false] at h
      refine AWp.skip ?_
      simp only [Post.then, Post.inBlock, ↓reduceIte, Nat.reduceEqDiff]
      refine hK_38 _ ?_
      clear hK_38 K_38
      refine AWp.seq fun K_42 hK_42 => AWp.reg ?_
      iterate 1 (refine AOps.consU fun K' hK' => ?_; simp (disch := omega) only [go_sem, reduceCtorEq, ↓reduceIte, Nat.reduceAdd, Nat.reduceMul, Nat.reduceLT, Nat.reduceLeDiff, Nat.reduceEqDiff, Nat.reduceBEq, Int.reduceToNat]; refine hK' _ ?_; clear hK' K')
      refine AOps.nil ?_
      simp only [Post.then]
      refine hK_42 _ ?_
      clear hK_42 K_42
      refine AWp.ret ?_
      simp only [Post.then, Post.inBlock, Go.Pv.Fin, Go.Pv.FinG]
      rw [← Option.some.inj h]
      refine ⟨.d (.int .i64 0), ?_, (by first | exact True.intro | rfl), .d (.int .i64 0), ?_, ?_⟩
      · simp only [go_sem, Tryd.results81, List.length_append, List.length_set, List.length_replicate, reduceCtorEq, ↓reduceIte, Nat.reduceAdd, Nat.reduceMul, Nat.reduceLT, Nat.reduceLeDiff, Nat.reduceEqDiff, Nat.reduceBEq, Int.reduceToNat]
      · simp only [go_sem, lenc_nil, List.take_length, List.length_append, List.length_set, List.length_replicate, reduceCtorEq, ↓reduceIte, Nat.reduceAdd, Nat.reduceMul, Nat.reduceLT, Nat.reduceLeDiff, Nat.reduceEqDiff, Nat.reduceBEq, Int.reduceToNat]
      · (first | exact leV_refl _ | (simp only [go_sem, leV, leVL, leD, leDL, lenc_nil, leD_refl, leDL_refl, lstD_le, reduceCtorEq, ↓reduceIte, Nat.reduceAdd, Nat.reduceMul, Nat.reduceLT, Nat.reduceLeDiff, Nat.reduceEqDiff, Nat.reduceBEq, Int.reduceToNat]; done))

end Go.Pv.Tryd

namespace Go.Pv.Tryd
open Go.Proofs Go.Pv

theorem m_rate_market_round_ok (m1 : Market) (r : (List Int)) (h : m_rate_market_round m1 = some r) : PureFn Tryd.prog G 54 [.d (.agg [(.int .i64 m1.n), (.imm 4 (lenc Offer.pd m1.offers))])] (.d (lstD 1 (lenc (PD.int .i64) r))) := by
  unfold m_rate_market_round at h
  refine PureFn.intro2 Tryd.func54 (by rfl) (by rw [Tryd.ntmps54]; simp) ?_
  rw [Tryd.ntmps54]
  simp only [argEnv, reduceCtorEq, ↓reduceIte, Nat.reduceAdd, Nat.reduceMul, Nat.reduceLT, Nat.reduceLeDiff, Nat.reduceEqDiff, Nat.reduceBEq, Int.reduceToNat]
  refine AWp.seq fun K_1 hK_1 => AWp.reg ?_
  iterate 2 (refine AOps.consU fun K' hK' => ?_; simp (disch := omega) only [go_sem, reduceCtorEq, ↓reduceIte, Nat.reduceAdd, Nat.reduceMul, Nat.reduceLT, Nat.reduceLeDiff, Nat.reduceEqDiff, Nat.reduceBEq, Int.reduceToNat]; refine hK' _ ?_; clear hK' K')
  refine AOps.nil ?_
  simp only [Post.then]
  refine hK_1 _ ?_
  clear hK_1 K_1
  obtain ⟨o_2, hj_3, h⟩ := bind_some h
  refine AWp.seqI (fun i_72 : Unit => ⟨[], [], [], none⟩) (fun i_72 => o_2 = (.inl i_72)) ?_ ?_
  · refine AWp.seq fun K_4 hK_4 => AWp.reg ?_
    iterate 1 (refine AOps.consU fun K' hK' => ?_; simp (disch := omega) only [go_sem, reduceCtorEq, ↓reduceIte, Nat.reduceAdd, Nat.reduceMul, Nat.reduceLT, Nat.reduceLeDiff, Nat.reduceEqDiff, Nat.reduceBEq, Int.reduceToNat]; refine hK' _ ?_; clear hK' K')
    refine AOps.nil ?_
    simp only [Post.then]
    refine hK_4 _ ?_
    clear hK_4 K_4
    refine AWp.block ?_
    obtain ⟨x_9, hl_6, h2_7⟩ := bind_some hj_3
    obtain ⟨n_5, hl_6⟩ := iter_some hl_6
    refine AWp.loopI (fun i_70 : Nat × Int => ⟨[(1, .ptr 1000 0 0), (3, .d (.int .i64 i_70.2))], [(1000, ⟨77, 2, [.d (.agg [(.int .i64 m1.n), (.imm 4 (lenc Offer.pd m1.offers))])]⟩)], [], none⟩) (fun i_70 => iterN (m_rate_market_round_l1 m1) i_70.1 i_70.2 = some x_9) (fun i_70 => i_70.1) (n_5, 2) hl_6 (Sub.mk ⟨rfl, rfl, trivial⟩ ⟨rfl, trivial⟩ ⟨rfl, trivial, trivial⟩ ⟨⟨trivial, trivial⟩, trivial⟩ ⟨rfl, trivial, rfl⟩) ?_
    clear hl_6
    rintro ⟨n_5, length1⟩ hl_6
    try dsimp only at hl_6
    try dsimp only
    cases n_5 with
    | zero => cases hl_6
    | succ n_5 =>
      rw [iterN_succ] at hl_6
      obtain ⟨ob_10, hb_8, hl_6⟩ := bind_some hl_6
      unfold m_rate_market_round_l1 at hb_8
      try dsimp only at hb_8
      refine AWp.seq fun K_11 hK_11 => ?_
      refine AWp.seq fun K_12 hK_12 => AWp.reg ?_
      iterate 4 (refine AOps.consU fun K' hK' => ?_; simp (disch := omega) only [go_sem, reduceCtorEq, ↓reduceIte, Nat.reduceAdd, Nat.reduceMul, Nat.reduceLT, Nat.reduceLeDiff, Nat.reduceEqDiff, Nat.reduceBEq, Int.reduceToNat]; refine hK' _ ?_; clear hK' K')
      refine AOps.nil ?_
      simp only [Post.then]
      refine hK_12 _ ?_
      clear hK_12 K_12
      refine AWp.cond (b := (decide (length1 ≤ m1.n))) (by rfl) (fun hb_13 => ?_) (fun hb_13 => ?_)
      · rw [hb_13, cond_true] at hb_8
        refine AWp.skip ?_
        simp only [Post.then, Post.inBlock, ↓reduceIte, Nat.reduceEqDiff]
        refine hK_11 _ ?_
        clear hK_11 K_11
        obtain ⟨o_14, hj_15, hb_8⟩ := bind_some hb_8
        refine AWp.seqI (fun i_68 : Unit => ⟨[(1, .ptr 1000 0 0), (3, .d (.int .i64 length1))], [(1000, ⟨77, 2, [.d (.agg [(.int .i64 m1.n), (.imm 4 (lenc Offer.pd m1.offers))])]⟩)], [], none⟩) (fun i_68 => o_14 = (.inl i_68)) ?_ ?_
        · refine AWp.block ?_
          refine AWp.seq fun K_16 hK_16 => AWp.reg ?_
          iterate 1 (refine AOps.consU fun K' hK' => ?_; simp (disch := omega) only [go_sem, reduceCtorEq, ↓reduceIte, Nat.reduceAdd, Nat.reduceMul, Nat.reduceLT, Nat.reduceLeDiff, Nat.reduceEqDiff, Nat.reduceBEq, Int.reduceToNat]; refine hK' _ ?_; clear hK' K')
          refine AOps.nil ?_
          simp only [Post.then]
          refine hK_16 _ ?_
          clear hK_16 K_16
          obtain ⟨o_17, hj_18, hj_15⟩ := bind_some hj_15
          refine AWp.seqI (fun i_65 : (List Int) => ⟨[(1, .ptr 1000 0 0), (3, .d (.int .i64 length1)), (4, .ptr 1001 0 0)], [(1000, ⟨77, 2, [.d (.agg [(.int .i64 m1.n), (.imm 4 (lenc Offer.pd m1.offers))])]⟩), (1001, ⟨27, 1, [.d (lstD 1 (lenc (PD.int .i64) i_65))]⟩)], [], none⟩) (fun i_65 => o_17 = i_65) ?_ ?_
          · refine AWp.seq fun K_19 hK_19 => AWp.reg ?_
            iterate 3 (refine AOps.consU fun K' hK' => ?_; simp (disch := omega) only [go_sem, reduceCtorEq, ↓reduceIte, Nat.reduceAdd, Nat.reduceMul, Nat.reduceLT, Nat.reduceLeDiff, Nat.reduceEqDiff, Nat.reduceBEq, Int.reduceToNat]; refine hK' _ ?_; clear hK' K')
            refine AOps.nil ?_
            simp only [Post.then]
            refine hK_19 _ ?_
            clear hK_19 K_19
            refine AWp.block ?_
            obtain ⟨x_24, hl_21, h2_22⟩ := bind_some hj_18
            obtain ⟨n_20, hl_21⟩ := iter_some hl_21
            refine AWp.loopI (fun i_61 : Nat × (Int × (List Int)) => ⟨[(1, .ptr 1000 0 0), (3, .d (.int .i64 length1)), (4, .ptr 1001 0 0), (14, .d (.int .i64 m1.n)), (15, .d (.int .i64 i_61.2.1))], [(1000, ⟨77, 2, [.d (.agg [(.int .i64 m1.n), (.imm 4 (lenc Offer.pd m1.offers))])]⟩), (1001, ⟨27, 1, [.d (lstD 1 (lenc (PD.int .i64) i_61.2.2))]⟩)], [], none⟩) (fun i_61 => iterN (m_rate_market_round_l2 m1 length1) i_61.1 i_61.2 = some x_24) (fun i_61 => i_61.1) (n_20, (0, [])) hl_21 (Sub.mk ⟨rfl, rfl, rfl, rfl, rfl, trivial⟩ ⟨rfl, rfl, trivial⟩ ⟨rfl, trivial, rfl, trivial, trivial, trivial⟩ ⟨⟨trivial, trivial⟩, ⟨trivial, trivial⟩, trivial⟩ ⟨rfl, trivial, rfl⟩) ?_
            clear hl_21
            rintro ⟨n_20, v1, c2⟩ hl_21
            try dsimp only at hl_21
            try dsimp only
            cases n_20 with
            | zero => cases hl_21
            | succ n_20 =>
              rw [iterN_succ] at hl_21
              obtain ⟨ob_25, hb_23, hl_21⟩ := bind_some hl_21
              unfold m_rate_market_round_l2 at hb_23
              try dsimp only at hb_23
              refine AWp.seq fun K_26 hK_26 => AWp.reg ?_
              iterate 1 (refine AOps.consU fun K' hK' => ?_; simp (disch := omega) only [go_sem, reduceCtorEq, ↓reduceIte, Nat.reduceAdd, Nat.reduceMul, Nat.reduceLT, Nat.reduceLeDiff, Nat.reduceEqDiff, Nat.reduceBEq, Int.reduceToNat]; refine hK' _ ?_; clear hK' K')
              refine AOps.nil ?_
              simp only [Post.then]
              refine hK_26 _ ?_
              clear hK_26 K_26
              refine AWp.seq fun K_27 hK_27 => ?_
              refine AWp.cond (b := (decide (v1 < m1.n))) (by rfl) (fun hb_28 => ?_) (fun hb_28 => ?_)
              · rw [hb_28, cond_true] at hb_23
                refine AWp.skip ?_
                simp only [Post.then, Post.inBlock, ↓reduceIte, Nat.reduceEqDiff]
                refine hK_27 _ ?_
                clear hK_27 K_27
                obtain ⟨o_29, hj_30, hb_23⟩ := bind_some hb_23
                refine AWp.seqI (fun i_59 : (List Int) => ⟨[(1, .ptr 1000 0 0), (3, .d (.int .i64 length1)), (4, .ptr 1001 0 0), (14, .d (.int .i64 m1.n)), (15, .d (.int .i64 v1))], [(1000, ⟨77, 2, [.d (.agg [(.int .i64 m1.n), (.imm 4 (lenc Offer.pd m1.offers))])]⟩), (1001, ⟨27, 1, [.d (lstD 1 (lenc (PD.int .i64) i_59))]⟩)], [], none⟩) (fun i_59 => o_29 = i_59) ?_ ?_
                · refine AWp.block ?_
                  refine AWp.seq fun K_31 hK_31 => AWp.reg ?_
                  iterate 2 (refine AOps.consU fun K' hK' => ?_; simp (disch := omega) only [go_sem, reduceCtorEq, ↓reduceIte, Nat.reduceAdd, Nat.reduceMul, Nat.reduceLT, Nat.reduceLeDiff, Nat.reduceEqDiff, Nat.reduceBEq, Int.reduceToNat]; refine hK' _ ?_; clear hK' K')
                  refine AOps.nil ?_
                  simp only [Post.then]
                  refine hK_31 _ ?_
                  clear hK_31 K_31
                  refine AWp.seq fun K_32 hK_32 => AWp.reg ?_
                  iterate 3 (refine AOps.consU fun K' hK' => ?_; simp (disch := omega) only [go_sem, reduceCtorEq, ↓reduceIte, Nat.reduceAdd, Nat.reduceMul, Nat.reduceLT, Nat.reduceLeDiff, Nat.reduceEqDiff, Nat.reduceBEq, Int.reduceToNat]; refine hK' _ ?_; clear hK' K')
                  obtain ⟨hg_33, hj_30⟩ := guardO_some hj_30
                  refine AOps.consU fun K' hK' => ?_; simp (disch := omega) only [go_sem, reduceCtorEq, ↓reduceIte, Nat.reduceAdd, Nat.reduceMul, Nat.reduceLT, Nat.reduceLeDiff, Nat.reduceEqDiff, Nat.reduceBEq, Int.reduceToNat]; refine OpT.call (by rfl) (by rfl) (by kernel_rfl) (walks_fn m1 v1 length1 true) (by exact ⟨rfl, rfl, rfl, rfl, trivial⟩) (by simp only [go_sem, reduceCtorEq, ↓reduceIte, Nat.reduceAdd, Nat.reduceMul, Nat.reduceLT, Nat.reduceLeDiff, Nat.reduceEqDiff, Nat.reduceBEq, Int.reduceToNat]) ?_ (by simp only [go_sem]); simp only [go_sem, reduceCtorEq, ↓reduceIte, Nat.reduceAdd, Nat.reduceMul, Nat.reduceLT, Nat.reduceLeDiff, Nat.reduceEqDiff, Nat.reduceBEq, Int.reduceToNat]; refine hK' _ ?_; clear hK' K'
                  refine AOps.nil ?_
                  simp only [Post.then]
                  refine hK_32 _ ?_
                  clear hK_32 K_32
                  refine AWp.block ?_
                  refine AWp.sub (τ := ⟨[(1, .ptr 1000 0 0), (3, .d (.int .i64 length1)), (4, .ptr 1001 0 0), (14, .d (.int .i64 m1.n)), (15, .d (.int .i64 v1)), (21, .func (.func 93) [.dptr 2 [(.agg [(.int .i64 m1.n), (.imm 4 (lenc Offer.pd m1.offers))])] 0 0, .dptr 1 [.int .i64 length1] 0 0, .dptr 1 [.int .i64 v1] 0 0, .dptr 1 [.bool true] 0 0])], [(1000, ⟨77, 2, [.d (.agg [(.int .i64 m1.n), (.imm 4 (lenc Offer.pd m1.offers))])]⟩), (1001, ⟨27, 1, [.d (lstD 1 (lenc (PD.int .i64) c2))]⟩)], [], none⟩) (Sub.mk ⟨rfl, rfl, rfl, rfl, rfl, rfl, trivial⟩ ⟨rfl, rfl, trivial⟩ ⟨rfl, trivial, rfl, trivial, trivial, (by simp only [go_sem, reduceCtorEq, ↓reduceIte, Nat.reduceAdd, Nat.reduceMul, Nat.reduceLT, Nat.reduceLeDiff, Nat.reduceEqDiff, Nat.reduceBEq, Int.reduceToNat]), trivial⟩ ⟨⟨trivial, trivial⟩, ⟨trivial, trivial⟩, trivial⟩ ⟨rfl, trivial, rfl⟩) ?_
                  obtain ⟨o_52, hl_53, h2_54⟩ := bind_some hj_30
                  refine AWp.rangeL Walk.pd (walksL m1 v1 length1 true) (fun i_57 : (List Int) => [(1000, ⟨77, 2, [.d (.agg [(.int .i64 m1.n), (.imm 4 (lenc Offer.pd m1.offers))])]⟩), (1001, ⟨27, 1, [.d (lstD 1 (lenc (PD.int .i64) i_57))]⟩)]) 4 (fun i_57 : (List Int) => [(1000, ⟨77, 2, [.d (.agg [(.int .i64 m1.n), (.imm 4 (lenc Offer.pd m1.offers))])]⟩), (1001, ⟨27, 1, [.d (lstD 1 (lenc (PD.int .i64) i_57))]⟩)]) (m_rate_market_round_r3) c2 (by rfl) (by simp only [go_sem]) (by kernel_rfl) (walks_seq m1 v1 length1 true hg_33) rfl rfl (by rfl) (by decide) (by simp only [go_sem, clean, cleanL, dl_clean, reduceCtorEq, ↓reduceIte, Nat.reduceAdd, Nat.reduceMul, Nat.reduceLT, Nat.reduceLeDiff, Nat.reduceEqDiff, Nat.reduceBEq, Int.reduceToNat]) (fun _ => by simp only [go_sem, clean, cleanL, dl_clean, reduceCtorEq, ↓reduceIte, Nat.reduceAdd, Nat.reduceMul, Nat.reduceLT, Nat.reduceLeDiff, Nat.reduceEqDiff, Nat.reduceBEq, Int.reduceToNat]) (fun _ => by simp only [go_sem, clean, cleanL, dl_clean, reduceCtorEq, ↓reduceIte, Nat.reduceAdd, Nat.reduceMul, Nat.reduceLT, Nat.reduceLeDiff, Nat.reduceEqDiff, Nat.reduceBEq, Int.reduceToNat]) hl_53 ?_ ?_ ?_
                  · rintro l_37 c4 x1 q_36 hraw_34
                    have hb_35 := hraw_34
                    unfold m_rate_market_round_r3 at hb_35
                    try dsimp only at hb_35
                    try dsimp only
                    simp only [eput, ↓reduceIte, Nat.reduceEqDiff]
                    refine AWp.reg ?_
                    iterate 2 (refine AOps.consU fun K' hK' => ?_; simp (disch := omega) only [go_sem, reduceCtorEq, ↓reduceIte, Nat.reduceAdd, Nat.reduceMul, Nat.reduceLT, Nat.reduceLeDiff, Nat.reduceEqDiff, Nat.reduceBEq, Int.reduceToNat]; refine hK' _ ?_; clear hK' K')
                    refine AOps.nil ?_
                    simp only [Post.then, Post.inBlock, ↓reduceIte, Nat.reduceEqDiff]
                    refine AWp.block ?_
                    refine AWp.seq fun K_39 hK_39 => AWp.reg ?_
                    iterate 3 (refine AOps.consU fun K' hK' => ?_; simp (disch := omega) only [go_sem, reduceCtorEq, ↓reduceIte, Nat.reduceAdd, Nat.reduceMul, Nat.reduceLT, Nat.reduceLeDiff, Nat.reduceEqDiff, Nat.reduceBEq, Int.reduceToNat]; refine hK' _ ?_; clear hK' K')
                    obtain ⟨r1, hx_40, hb_35⟩ := bind_some hb_35
                    refine AOps.consU fun K' hK' => ?_; simp (disch := omega) only [go_sem, reduceCtorEq, ↓reduceIte, Nat.reduceAdd, Nat.reduceMul, Nat.reduceLT, Nat.reduceLeDiff, Nat.reduceEqDiff, Nat.reduceBEq, Int.reduceToNat]; refine OpT.call (by rfl) (by rfl) (by kernel_rfl) (m_rate_above_ok x1.rate (⟨1, 1⟩ : Ratio) _ hx_40) (by exact ⟨rfl, rfl, trivial⟩) (by simp only [go_sem, reduceCtorEq, ↓reduceIte, Nat.reduceAdd, Nat.reduceMul, Nat.reduceLT, Nat.reduceLeDiff, Nat.reduceEqDiff, Nat.reduceBEq, Int.reduceToNat]) ?_ (by simp only [go_sem]); simp only [go_sem, reduceCtorEq, ↓reduceIte, Nat.reduceAdd, Nat.reduceMul, Nat.reduceLT, Nat.reduceLeDiff, Nat.reduceEqDiff, Nat.reduceBEq, Int.reduceToNat]; refine hK' _ ?_; clear hK' K'
                    refine AOps.nil ?_
                    simp only [Post.then]
                    refine hK_39 _ ?_
                    clear hK_39 K_39
                    refine AWp.cond (b := r1) (by rfl) (fun hb_41 => ?_) (fun hb_41 => ?_)
                    · rw [hb_41, cond_true] at hb_35
                      obtain ⟨o_42, hj_43, hb_35⟩ := bind_some hb_35
                      refine AWp.seqI (fun i_50 : (List Int) => ⟨[(1, .ptr 1000 0 0), (3, .d (.int .i64 length1)), (4, .ptr 1001 0 0), (14, .d (.int .i64 m1.n)), (15, .d (.int .i64 v1)), (22, .d (.agg [(lstD 1 (lenc (PD.int .i64) x1.list)), (.int .i64 x1.rate.Num), (.int .i64 x1.rate.Den), (.int .i64 x1.to)]))], [(1000, ⟨77, 2, [.d (.agg [(.int .i64 m1.n), (.imm 4 (lenc Offer.pd m1.offers))])]⟩), (1001, ⟨27, 1, [.d (lstD 1 (lenc (PD.int .i64) i_50))]⟩)], [.func (.func 0) (envL [(1, .ptr 1000 0 0), (3, .d (.int .i64 length1)), (4, .ptr 1001 0 0), (14, .d (.int .i64 m1.n)), (15, .d (.int .i64 v1)), (21, .func (.func 93) [.dptr 2 [(.agg [(.int .i64 m1.n), (.imm 4 (lenc Offer.pd m1.offers))])] 0 0, .dptr 1 [.int .i64 length1] 0 0, .dptr 1 [.int .i64 v1] 0 0, .dptr 1 [.bool true] 0 0])])], none⟩) (fun i_50 => o_42 = i_50) ?_ ?_
                      · refine AWp.seq fun K_44 hK_44 => AWp.reg ?_
                        iterate 3 (refine AOps.consU fun K' hK' => ?_; simp (disch := omega) only [go_sem, reduceCtorEq, ↓reduceIte, Nat.reduceAdd, Nat.reduceMul, Nat.reduceLT, Nat.reduceLeDiff, Nat.reduceEqDiff, Nat.reduceBEq, Int.reduceToNat]; refine hK' _ ?_; clear hK' K')
                        obtain ⟨b1, hc_45, hj_43⟩ := bind_some hj_43
                        refine AOps.cut 6 (⟨[(1, .ptr 1000 0 0), (3, .d (.int .i64 length1)), (4, .ptr 1001 0 0), (6, .ptr 1002 0 0), (14, .d (.int .i64 m1.n)), (15, .d (.int .i64 v1)), (22, .d (.agg [(lstD 1 (lenc (PD.int .i64) x1.list)), (.int .i64 x1.rate.Num), (.int .i64 x1.rate.Den), (.int .i64 x1.to)])), (35, .d (.bool b1))], [(1000, ⟨77, 2, [.d (.agg [(.int .i64 m1.n), (.imm 4 (lenc Offer.pd m1.offers))])]⟩), (1001, ⟨27, 1, [.d (lstD 1 (lenc (PD.int .i64) c4))]⟩), (1002, ⟨83, 4, [.d (.agg [(lstD 1 (lenc (PD.int .i64) x1.list)), (.int .i64 x1.rate.Num), (.int .i64 x1.rate.Den), (.int .i64 x1.to)])]⟩)], [.func (.func 0) (envL [(1, .ptr 1000 0 0), (3, .d (.int .i64 length1)), (4, .ptr 1001 0 0), (14, .d (.int .i64 m1.n)), (15, .d (.int .i64 v1)), (21, .func (.func 93) [.dptr 2 [(.agg [(.int .i64 m1.n), (.imm 4 (lenc Offer.pd m1.offers))])] 0 0, .dptr 1 [.int .i64 length1] 0 0, .dptr 1 [.int .i64 v1] 0 0, .dptr 1 [.bool true] 0 0])])], none⟩) ?_ ?_
                        · simp only [List.take_succ_cons, List.take_zero]
                          rcases Bool.eq_false_or_eq_true ((c4).isEmpty) with hg_47 | hg_47
                          · rw [hg_47]
                            rw [hg_47, cond_true] at hc_45
                            iterate 6 (refine AOps.consU fun K' hK' => ?_; simp (disch := omega) only [go_sem, reduceCtorEq, ↓reduceIte, Nat.reduceAdd, Nat.reduceMul, Nat.reduceLT, Nat.reduceLeDiff, Nat.reduceEqDiff, Nat.reduceBEq, Int.reduceToNat]; refine hK' _ ?_; clear hK' K')
                            refine AOps.nil ?_
                            have hc_45 := Option.some.inj hc_45
                            subst hc_45
                            exact (Sub.mk ⟨rfl, rfl, rfl, rfl, rfl, rfl, rfl, rfl, trivial⟩ ⟨rfl, rfl, rfl, trivial⟩ ⟨rfl, trivial, rfl, rfl, trivial, trivial, trivial, trivial, trivial⟩ ⟨⟨trivial, trivial⟩, ⟨trivial, trivial⟩, ⟨trivial, trivial⟩, trivial⟩ ⟨rfl, (by simp only [go_sem, envL, envLGo, reduceCtorEq, ↓reduceIte, Nat.reduceAdd, Nat.reduceMul, Nat.reduceLT, Nat.reduceLeDiff, Nat.reduceEqDiff, Nat.reduceBEq, Int.reduceToNat]), rfl⟩)
                          · rw [hg_47]
                            rw [hg_47, cond_false] at hc_45
                            iterate 3 (refine AOps.consU fun K' hK' => ?_; simp (disch := omega) only [go_sem, reduceCtorEq, ↓reduceIte, Nat.reduceAdd, Nat.reduceMul, Nat.reduceLT, Nat.reduceLeDiff, Nat.reduceEqDiff, Nat.reduceBEq, Int.reduceToNat]; refine hK' _ ?_; clear hK' K')
                            refine AOps.sub (τ := ⟨[(1, .ptr 1000 0 0), (3, .d (.int .i64 length1)), (4, .ptr 1001 0 0), (6, .ptr 1002 0 0), (14, .d (.int .i64 m1.n)), (15, .d (.int .i64 v1)), (22, .d (.agg [(lstD 1 (lenc (PD.int .i64) x1.list)), (.int .i64 x1.rate.Num), (.int .i64 x1.rate.Den), (.int .i64 x1.to)])), (29, .d (.bool false)), (30, .ptr 1002 0 0), (31, .d (.imm 1 (lenc (PD.int .i64) x1.list))), (32, .d (.imm 1 (lenc (PD.int .i64) c4)))], [(1000, ⟨77, 2, [.d (.agg [(.int .i64 m1.n), (.imm 4 (lenc Offer.pd m1.offers))])]⟩), (1001, ⟨27, 1, [.d (lstD 1 (lenc (PD.int .i64) c4))]⟩), (1002, ⟨83, 4, [.d (.agg [(lstD 1 (lenc (PD.int .i64) x1.list)), (.int .i64 x1.rate.Num), (.int .i64 x1.rate.Den), (.int .i64 x1.to)])]⟩)], [.func (.func 0) (envL [(1, .ptr 1000 0 0), (3, .d (.int .i64 length1)), (4, .ptr 1001 0 0), (14, .d (.int .i64 m1.n)), (15, .d (.int .i64 v1)), (21, .func (.func 93) [.dptr 2 [(.agg [(.int .i64 m1.n), (.imm 4 (lenc Offer.pd m1.offers))])] 0 0, .dptr 1 [.int .i64 length1] 0 0, .dptr 1 [.int .i64 v1] 0 0, .dptr 1 [.bool true] 0 0])])], none⟩) (Sub.cv ⟨rfl, rfl, rfl, trivial⟩ ⟨.inl ⟨leV_refl _, rfl⟩, .inl ⟨leV_refl _, trivial⟩, .inl ⟨leV_refl _, rfl⟩, .inl ⟨leV_refl _, rfl⟩, .inl ⟨leV_refl _, trivial⟩, .inl ⟨leV_refl _, trivial⟩, .inl ⟨leV_refl _, trivial⟩, .inl ⟨leV_refl _, trivial⟩, .inl ⟨leV_refl _, rfl⟩, .inl ⟨by simp only [leV]; exact lstD_le _ _, trivial⟩, .inl ⟨by simp only [leV]; exact lstD_le _ _, trivial⟩, trivial⟩ ⟨⟨trivial, trivial⟩, ⟨trivial, trivial⟩, ⟨trivial, trivial⟩, trivial⟩ ⟨rfl, (by simp only [go_sem, envL, envLGo, reduceCtorEq, ↓reduceIte, Nat.reduceAdd, Nat.reduceMul, Nat.reduceLT, Nat.reduceLeDiff, Nat.reduceEqDiff, Nat.reduceBEq, Int.reduceToNat]), rfl⟩) ?_
                            obtain ⟨r2, hx_46, hc_45⟩ := bind_some hc_45
                            refine AOps.consU fun K' hK' => ?_; simp (disch := omega) only [go_sem, reduceCtorEq, ↓reduceIte, Nat.reduceAdd, Nat.reduceMul, Nat.reduceLT, Nat.reduceLeDiff, Nat.reduceEqDiff, Nat.reduceBEq, Int.reduceToNat]; refine OpT.call (by rfl) (by rfl) (by kernel_rfl) (m_slices_Compare_ok x1.list c4 _ hx_46) (by exact ⟨rfl, rfl, trivial⟩) (by simp only [go_sem, reduceCtorEq, ↓reduceIte, Nat.reduceAdd, Nat.reduceMul, Nat.reduceLT, Nat.reduceLeDiff, Nat.reduceEqDiff, Nat.reduceBEq, Int.reduceToNat]) ?_ (by simp only [go_sem]); simp only [go_sem, reduceCtorEq, ↓reduceIte, Nat.reduceAdd, Nat.reduceMul, Nat.reduceLT, Nat.reduceLeDiff, Nat.reduceEqDiff, Nat.reduceBEq, Int.reduceToNat]; refine hK' _ ?_; clear hK' K'
                            iterate 2 (refine AOps.consU fun K' hK' => ?_; simp (disch := omega) only [go_sem, reduceCtorEq, ↓reduceIte, Nat.reduceAdd, Nat.reduceMul, Nat.reduceLT, Nat.reduceLeDiff, Nat.reduceEqDiff, Nat.reduceBEq, Int.reduceToNat]; refine hK' _ ?_; clear hK' K')
                            refine AOps.nil ?_
                            have hc_45 := Option.some.inj hc_45
                            subst hc_45
                            exact (Sub.mk ⟨rfl, rfl, rfl, rfl, rfl, rfl, rfl, rfl, trivial⟩ ⟨rfl, rfl, rfl, trivial⟩ ⟨rfl, trivial, rfl, rfl, trivial, trivial, trivial, trivial, trivial⟩ ⟨⟨trivial, trivial⟩, ⟨trivial, trivial⟩, ⟨trivial, trivial⟩, trivial⟩ ⟨rfl, (by simp only [go_sem, envL, envLGo, reduceCtorEq, ↓reduceIte, Nat.reduceAdd, Nat.reduceMul, Nat.reduceLT, Nat.reduceLeDiff, Nat.reduceEqDiff, Nat.reduceBEq, Int.reduceToNat]), rfl⟩)
                        simp only [List.drop_succ_cons, List.drop_zero]
                        refine AOps.nil ?_
                        simp only [Post.then]
                        refine hK_44 _ ?_
                        clear hK_44 K_44
                        refine AWp.cond (b := b1) (by rfl) (fun hb_48 => ?_) (fun hb_48 => ?_)
                        · rw [hb_48, cond_true] at hj_43
                          refine AWp.reg ?_
                          iterate 3 (refine AOps.consU fun K' hK' => ?_; simp (disch := omega) only [go_sem, reduceCtorEq, ↓reduceIte, Nat.reduceAdd, Nat.reduceMul, Nat.reduceLT, Nat.reduceLeDiff, Nat.reduceEqDiff, Nat.reduceBEq, Int.reduceToNat]; refine hK' _ ?_; clear hK' K')
                          refine AOps.nil ?_
                          simp only [Post.then, Post.inBlock, ↓reduceIte, Nat.reduceEqDiff]
                          exact ⟨x1.list, (Option.some.inj hj_43).symm, (Sub.mk ⟨rfl, rfl, rfl, rfl, rfl, rfl, trivial⟩ ⟨rfl, rfl, trivial⟩ ⟨rfl, trivial, rfl, trivial, trivial, trivial, trivial⟩ ⟨⟨trivial, trivial⟩, ⟨trivial, trivial⟩, trivial⟩ ⟨rfl, (by simp only [go_sem, envL, envLGo, reduceCtorEq, ↓reduceIte, Nat.reduceAdd, Nat.reduceMul, Nat.reduceLT, Nat.reduceLeDiff, Nat.reduceEqDiff, Nat.reduceBEq, Int.reduceToNat]), rfl⟩)⟩
                        · rw [hb_48, cond_false] at hj_43
                          refine AWp.skip ?_
                          simp only [Post.then, Post.inBlock, ↓reduceIte, Nat.reduceEqDiff]
                          exact ⟨c4, (Option.some.inj hj_43).symm, (Sub.mk ⟨rfl, rfl, rfl, rfl, rfl, rfl, trivial⟩ ⟨rfl, rfl, trivial⟩ ⟨rfl, trivial, rfl, trivial, trivial, trivial, trivial⟩ ⟨⟨trivial, trivial⟩, ⟨trivial, trivial⟩, trivial⟩ ⟨rfl, (by simp only [go_sem, envL, envLGo, reduceCtorEq, ↓reduceIte, Nat.reduceAdd, Nat.reduceMul, Nat.reduceLT, Nat.reduceLeDiff, Nat.reduceEqDiff, Nat.reduceBEq, Int.reduceToNat]), rfl⟩)⟩
                      · rintro c5 hx_51
                        rw [hx_51] at hb_35
                        try dsimp only at hb_35
                        try dsimp only
                        refine AWp.exit ?_
                        simp only [Post.then, Post.inBlock, ↓reduceIte, Nat.reduceEqDiff]
                        show _ = _ ∧ ∃ y, _ = some (Sum.inr y) ∧ _
                        exact ⟨rfl, c5, hraw_34.trans hb_35.symm, (Sub.mk trivial ⟨rfl, rfl, trivial⟩ trivial ⟨⟨trivial, trivial⟩, ⟨trivial, trivial⟩, trivial⟩ ⟨rfl, (by simp only [go_sem, envL, envLGo, reduceCtorEq, ↓reduceIte, Nat.reduceAdd, Nat.reduceMul, Nat.reduceLT, Nat.reduceLeDiff, Nat.reduceEqDiff, Nat.reduceBEq, Int.reduceToNat]), rfl⟩)⟩
                    · rw [hb_41, cond_false] at hb_35
                      refine AWp.skip ?_
                      simp only [Post.then, Post.inBlock, ↓reduceIte, Nat.reduceEqDiff]
                      show ∃ s, _ = some (Sum.inl s) ∧ _
                      exact ⟨c4, hraw_34.trans hb_35.symm, (Sub.mk trivial ⟨rfl, rfl, trivial⟩ trivial ⟨⟨trivial, trivial⟩, ⟨trivial, trivial⟩, trivial⟩ ⟨rfl, (by simp only [go_sem, envL, envLGo, reduceCtorEq, ↓reduceIte, Nat.reduceAdd, Nat.reduceMul, Nat.reduceLT, Nat.reduceLeDiff, Nat.reduceEqDiff, Nat.reduceBEq, Int.reduceToNat]), rfl⟩)⟩
                  · rintro c4 hx_55
                    rw [hx_55] at h2_54
                    try dsimp only at h2_54
                    try dsimp only
                    simp only [Post.then, Post.inBlock, ↓reduceIte, Nat.reduceEqDiff]
                    exact ⟨c4, (Option.some.inj h2_54).symm, (Sub.mk ⟨rfl, rfl, rfl, rfl, rfl, trivial⟩ ⟨rfl, rfl, trivial⟩ ⟨rfl, trivial, rfl, trivial, trivial, trivial⟩ ⟨⟨trivial, trivial⟩, ⟨trivial, trivial⟩, trivial⟩ ⟨rfl, trivial, rfl⟩)⟩
                  · rintro c41 hy_56
                    rw [hy_56] at h2_54
                    try dsimp only at h2_54
                    try dsimp only
                    simp only [Post.then, Post.inBlock, ↓reduceIte, Nat.reduceEqDiff]
                    exact ⟨c41, (Option.some.inj h2_54).symm, (Sub.mk ⟨rfl, rfl, rfl, rfl, rfl, trivial⟩ ⟨rfl, rfl, trivial⟩ ⟨rfl, trivial, rfl, trivial, trivial, trivial⟩ ⟨⟨trivial, trivial⟩, ⟨trivial, trivial⟩, trivial⟩ ⟨rfl, trivial, rfl⟩)⟩
                · rintro c3 hx_60
                  rw [hx_60] at hb_23
                  try dsimp only at hb_23
                  try dsimp only
                  refine AWp.reg ?_
                  iterate 2 (refine AOps.consU fun K' hK' => ?_; simp (disch := omega) only [go_sem, reduceCtorEq, ↓reduceIte, Nat.reduceAdd, Nat.reduceMul, Nat.reduceLT, Nat.reduceLeDiff, Nat.reduceEqDiff, Nat.reduceBEq, Int.reduceToNat]; refine hK' _ ?_; clear hK' K')
                  refine AOps.nil ?_
                  simp only [Post.then, Post.inBlock, ↓reduceIte, Nat.reduceEqDiff]
                  rw [← Option.some.inj hb_23] at hl_21
                  try dsimp only at hl_21
                  exact ⟨(n_20, ((IntKind.i64.wrap (v1 + 1)), c3)), hl_21, Nat.lt_succ_self n_20, (Sub.mk ⟨rfl, rfl, rfl, rfl, rfl, trivial⟩ ⟨rfl, rfl, trivial⟩ ⟨rfl, trivial, rfl, trivial, trivial, trivial⟩ ⟨⟨trivial, trivial⟩, ⟨trivial, trivial⟩, trivial⟩ ⟨rfl, trivial, rfl⟩)⟩
              · rw [hb_28, cond_false] at hb_23
                refine AWp.exit ?_
                simp only [Post.then, Post.inBlock, ↓reduceIte, Nat.reduceEqDiff]
                rw [← Option.some.inj hb_23] at hl_21
                try dsimp only at hl_21
                rw [← Option.some.inj hl_21] at h2_22
                try dsimp only at h2_22
                exact ⟨c2, (Option.some.inj h2_22).symm, (Sub.mk ⟨rfl, rfl, rfl, trivial⟩ ⟨rfl, rfl, trivial⟩ ⟨rfl, trivial, rfl, trivial⟩ ⟨⟨trivial, trivial⟩, ⟨trivial, trivial⟩, trivial⟩ ⟨rfl, trivial, rfl⟩)⟩
          · rintro c1 hx_66
            rw [hx_66] at hj_15
            try dsimp only at hj_15
            try dsimp only
            refine AWp.seq fun K_62 hK_62 => AWp.reg ?_
            iterate 2 (refine AOps.consU fun K' hK' => ?_; simp (disch := omega) only [go_sem, reduceCtorEq, ↓reduceIte, Nat.reduceAdd, Nat.reduceMul, Nat.reduceLT, Nat.reduceLeDiff, Nat.reduceEqDiff, Nat.reduceBEq, Int.reduceToNat]; refine hK' _ ?_; clear hK' K')
            refine AOps.nil ?_
            simp only [Post.then]
            refine hK_62 _ ?_
            clear hK_62 K_62
            refine AWp.cond (b := (!(c1).isEmpty)) (by rfl) (fun hb_63 => ?_) (fun hb_63 => ?_)
            · rw [hb_63, cond_true] at hj_15
              refine AWp.seq fun K_64 hK_64 => AWp.reg ?_
              iterate 2 (refine AOps.consU fun K' hK' => ?_; simp (disch := omega) only [go_sem, reduceCtorEq, ↓reduceIte, Nat.reduceAdd, Nat.reduceMul, Nat.reduceLT, Nat.reduceLeDiff, Nat.reduceEqDiff, Nat.reduceBEq, Int.reduceToNat]; refine hK' _ ?_; clear hK' K')
              refine AOps.nil ?_
              simp only [Post.then]
              refine hK_64 _ ?_
              clear hK_64 K_64
              refine AWp.ret ?_
              simp only [Post.then, Post.inBlock, Go.Pv.Fin, Go.Pv.FinG]
              rw [← Option.some.inj hj_15] at hb_8
              try dsimp only at hb_8
              rw [← Option.some.inj hb_8] at hl_6
              try dsimp only at hl_6
              rw [← Option.some.inj hl_6] at h2_7
              try dsimp only at h2_7
              rw [← Option.some.inj h2_7] at h
              try dsimp only at h
              rw [← Option.some.inj h]
              refine ⟨.d (lstD 1 (lenc (PD.int .i64) c1)), ?_, (by first | exact True.intro | rfl), .d (lstD 1 (lenc (PD.int .i64) c1)), ?_, ?_⟩
              · simp only [go_sem, Tryd.results54, List.length_append, List.length_set, List.length_replicate, reduceCtorEq, ↓reduceIte, Nat.reduceAdd, Nat.reduceMul, Nat.reduceLT, Nat.reduceLeDiff, Nat.reduceEqDiff, Nat.reduceBEq, Int.reduceToNat]
              · simp only [go_sem, lenc_nil, List.take_length, List.length_append, List.length_set, List.length_replicate, reduceCtorEq, ↓reduceIte, Nat.reduceAdd, Nat.reduceMul, Nat.reduceLT, Nat.reduceLeDiff, Nat.reduceEqDiff, Nat.reduceBEq, Int.reduceToNat]
              · (first | exact leV_refl _ | (simp only [go_sem, leV, leVL, leD, leDL, lenc_nil, leD_refl, leDL_refl, lstD_le, reduceCtorEq, ↓reduceIte, Nat.reduceAdd, Nat.reduceMul, Nat.reduceLT, Nat.reduceLeDiff, Nat.reduceEqDiff, Nat.reduceBEq, Int.reduceToNat]; done))
            · rw [hb_63, cond_false] at hj_15
              refine AWp.skip ?_
              simp only [Post.then, Post.inBlock, ↓reduceIte, Nat.reduceEqDiff]
              exact ⟨(), (Option.some.inj hj_15).symm, (Sub.mk ⟨rfl, rfl, trivial⟩ ⟨rfl, trivial⟩ ⟨rfl, trivial, trivial⟩ ⟨⟨trivial, trivial⟩, trivial⟩ ⟨rfl, trivial, rfl⟩)⟩
        · rintro _ hx_69
          rw [hx_69] at hb_8
          try dsimp only at hb_8
          try dsimp only
          refine AWp.reg ?_
          iterate 3 (refine AOps.consU fun K' hK' => ?_; simp (disch := omega) only [go_sem, reduceCtorEq, ↓reduceIte, Nat.reduceAdd, Nat.reduceMul, Nat.reduceLT, Nat.reduceLeDiff, Nat.reduceEqDiff, Nat.reduceBEq, Int.reduceToNat]; refine hK' _ ?_; clear hK' K')
          refine AOps.nil ?_
          simp only [Post.then, Post.inBlock, ↓reduceIte, Nat.reduceEqDiff]
          rw [← Option.some.inj hb_8] at hl_6
          try dsimp only at hl_6
          exact ⟨(n_5, (IntKind.i64.wrap (length1 + 1))), hl_6, Nat.lt_succ_self n_5, (Sub.mk ⟨rfl, rfl, trivial⟩ ⟨rfl, trivial⟩ ⟨rfl, trivial, trivial⟩ ⟨⟨trivial, trivial⟩, trivial⟩ ⟨rfl, trivial, rfl⟩)⟩
      · rw [hb_13, cond_false] at hb_8
        refine AWp.exit ?_
        simp only [Post.then, Post.inBlock, ↓reduceIte, Nat.reduceEqDiff]
        rw [← Option.some.inj hb_8] at hl_6
        try dsimp only at hl_6
        rw [← Option.some.inj hl_6] at h2_7
        try dsimp only at h2_7
        exact ⟨(), (Option.some.inj h2_7).symm, (Sub.mk trivial trivial trivial trivial ⟨rfl, trivial, rfl⟩)⟩
  · rintro _ hx_73
    rw [hx_73] at h
    try dsimp only at h
    try dsimp only
    refine AWp.seq fun K_71 hK_71 => AWp.reg ?_
    iterate 1 (refine AOps.consU fun K' hK' => ?_; simp (disch := omega) only [go_sem, reduceCtorEq, ↓reduceIte, Nat.reduceAdd, Nat.reduceMul, Nat.reduceLT, Nat.reduceLeDiff, Nat.reduceEqDiff, Nat.reduceBEq, Int.reduceToNat]; refine hK' _ ?_; clear hK' K')
    refine AOps.nil ?_
    simp only [Post.then]
    refine hK_71 _ ?_
    clear hK_71 K_71
    refine AWp.ret ?_
    simp only [Post.then, Post.inBlock, Go.Pv.Fin, Go.Pv.FinG]
    rw [← Option.some.inj h]
    refine ⟨.d .nilslice, ?_, (by first | exact True.intro | rfl), .d .nilslice, ?_, ?_⟩
    · simp only [go_sem, Tryd.results54, List.length_append, List.length_set, List.length_replicate, reduceCtorEq, ↓reduceIte, Nat.reduceAdd, Nat.reduceMul, Nat.reduceLT, Nat.reduceLeDiff, Nat.reduceEqDiff, Nat.reduceBEq, Int.reduceToNat]
    · simp only [go_sem, lenc_nil, List.take_length, List.length_append, List.length_set, List.length_replicate, reduceCtorEq, ↓reduceIte, Nat.reduceAdd, Nat.reduceMul, Nat.reduceLT, Nat.reduceLeDiff, Nat.reduceEqDiff, Nat.reduceBEq, Int.reduceToNat]
    · (first | exact leV_refl _ | (simp only [go_sem, leV, leVL, leD, leDL, lenc_nil, leD_refl, leDL_refl, lstD_le, reduceCtorEq, ↓reduceIte, Nat.reduceAdd, Nat.reduceMul, Nat.reduceLT, Nat.reduceLeDiff, Nat.reduceEqDiff, Nat.reduceBEq, Int.reduceToNat]; done))

end Go.Pv.Tryd

