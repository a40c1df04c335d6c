/- RateRounding answers true for every input, as its tied card says: under the conditions of the card (Rows, Cards, Tie), no more. Part 4 of 5: by one AI agent and its programs; no person has read it. -/
import Derived.Test.YtmnemlihimnofaaDoorRateRoundingA
import Derived.Test.YtmnemlihimnofaaDoorRateRoundingB
import Derived.Test.YtmnemlihimnofaaDoorRateRoundingC
set_option linter.unusedSimpArgs false
set_option linter.unusedVariables false
set_option linter.all false

set_option linter.unusedSimpArgs false
set_option linter.unusedVariables false
namespace Go.Pv
def foldUp {S : Type} (h : Int → S → S) : Nat → Int → S → S
  | 0, _, s => s
  | k + 1, i, s => foldUp h k (i + 1) (h i s)
theorem forUp_some {S : Type} {g : Int → S → Option S} {h : Int → S → S} {P : Int → S → Prop} : ∀ {k : Nat} {i : Int} {s : S}, (∀ j s, i ≤ j → j < i + k → P j s → g j s = some (h j s) ∧ P (j + 1) (h j s)) → P i s →
    forUp g k i s = some (foldUp h k i s) ∧ P (i + k) (foldUp h k i s)
  | 0, i, s, _, hp => ⟨rfl, by rw [show i + ((0 : Nat) : Int) = i by omega]; exact hp⟩
  | k + 1, i, s, hg, hp => by
    obtain ⟨h1, h2⟩ := hg i s (by omega) (by omega) hp
    have := forUp_some (k := k) (i := i + 1) (s := h i s) (fun j s h3 h4 h5 => hg j s (by omega) (by omega) h5) h2
    simp only [forUp, foldUp, h1, Option.bind_some]
    rw [show i + ((k + 1 : Nat) : Int) = i + 1 + (k : Int) by omega]
    exact this
theorem iter_fold {S X : Type} {f : Int × S → Option ((Int × S) ⊕ X)} {n : Int} {g : Int → S → Option S} {e : S → X} {h : Int → S → S} (P : Int → S → Prop) (hn : n ≤ 9223372036854775807)
    (hf : ∀ i s, f (i, s) = cond (decide (i < n)) ((g i s).bind fun s' => some (.inl (IntKind.i64.wrap (i + 1), s'))) (some (.inr (e s)))) {i : Int} {s : S} (h0 : 0 ≤ i)
    (hg : ∀ j s, i ≤ j → j < n → P j s → g j s = some (h j s) ∧ P (j + 1) (h j s)) (hp : P i s) : iter f (i, s) = some (e (foldUp h (n - i).toNat i s)) ∧ P (i + (n - i).toNat) (foldUp h (n - i).toNat i s) := by
  obtain ⟨h1, h2⟩ := forUp_some (k := (n - i).toNat) (i := i) (s := s) (g := g) (h := h) (P := P) (fun j s h3 h4 h5 => hg j s h3 (by omega) h5) hp
  rw [iter_for hn hf _ i s rfl h0, h1]
  exact ⟨rfl, h2⟩
def cmpL : List Int → List Int → Int
  | [], [] => 0
  | [], _ :: _ => -1
  | _ :: _, [] => 1
  | x :: xs, y :: ys => if x < y then -1 else if y < x then 1 else cmpL xs ys
theorem cmp_Compare (x y : Int) : m_cmp_Compare x y = some (if x < y then -1 else if y < x then 1 else 0) := by
  have h : ∀ x, m_cmp_isNaN x = some false := fun x => by simp [m_cmp_isNaN]
  rw [m_cmp_Compare, h, h]
  simp only [Option.bind_some, cond_false]
  by_cases h1 : x < y
  · simp [h1]
  by_cases h2 : y < x
  · simp [h1, h2]
  · simp [h1, h2]
theorem Compare_l1 (s t : List Int) (hs : s.length ≤ 1000000) (ht : t.length ≤ 1000000) : ∀ (k : Nat) (i : Int), k = (s.length - i).toNat → 0 ≤ i → i ≤ t.length →
    iter (m_slices_Compare_l1 s t) i = some (if s.length ≤ t.length ∧ s.drop i.toNat <+: t.drop i.toNat then .inl () else .inr (cmpL (s.drop i.toNat) (t.drop i.toNat)))
  | 0, i, hk, hi, ht => by
    have h : decide (i < (s.length : Int)) = false := by simp; omega
    have hd : s.drop i.toNat = [] := List.drop_of_length_le (by omega)
    rw [iter_eq, m_slices_Compare_l1, h, if_pos ⟨by omega, by rw [hd]; exact List.nil_prefix⟩]
    rfl
  | k + 1, i, hk, hi, hit => by
    have hlt : i < (s.length : Int) := by omega
    have h : decide (i < (s.length : Int)) = true := by simp; omega
    obtain ⟨x, h1, h2, h3, _⟩ := idx_lt hi hlt
    rw [iter_eq, m_slices_Compare_l1, h]
    simp only [cond_true, h1, Option.bind_some]
    by_cases hti : (t.length : Int) ≤ i
    · have d : decide ((t.length : Int) ≤ i) = true := by simpa using hti
      have hd : t.drop i.toNat = [] := List.drop_of_length_le (by omega)
      rw [d, hd, h3, if_neg (by omega)]
      rfl
    have d : decide ((t.length : Int) ≤ i) = false := by simpa using hti
    obtain ⟨y, g1, g2, g3, _⟩ := idx_lt (l := t) hi (by omega)
    simp only [d, cond_false, g1, Option.bind_some, cmp_Compare]
    rw [h3, g3]
    have ih := Compare_l1 s t hs ht k (i + 1) (by omega) (by omega) (by omega)
    have e1 : (i + 1).toNat = i.toNat + 1 := by omega
    rw [e1] at ih
    by_cases c1 : x < y
    · have e : decide (¬(if x < y then (-1 : Int) else if y < x then 1 else 0) = 0) = true := by simp [c1]
      have hng : ¬ (s.length ≤ t.length ∧ x :: s.drop (i.toNat + 1) <+: y :: t.drop (i.toNat + 1)) := fun h => by
        have := (List.cons_prefix_cons.1 h.2).1
        omega
      rw [if_neg hng]
      simp [e, c1, cmpL]
    by_cases c2 : y < x
    · have e : decide (¬(if x < y then (-1 : Int) else if y < x then 1 else 0) = 0) = true := by simp [c1, c2]
      have hng : ¬ (s.length ≤ t.length ∧ x :: s.drop (i.toNat + 1) <+: y :: t.drop (i.toNat + 1)) := fun h => by
        have := (List.cons_prefix_cons.1 h.2).1
        omega
      rw [if_neg hng]
      simp [e, c1, c2, cmpL]
    · have e : decide (¬(if x < y then (-1 : Int) else if y < x then 1 else 0) = 0) = false := by simp [c1, c2]
      have exy : x = y := by omega
      subst exy
      rw [e, wrap_i64_eq (by omega)]
      simp only [cond_false, Option.bind_some, ih, cmpL, c1, if_false, List.cons_prefix_cons, true_and]
theorem cmpL_prefix : ∀ {s t : List Int}, s <+: t → cmpL s t = if s.length < t.length then -1 else 0
  | [], [], _ => rfl
  | [], _ :: _, _ => rfl
  | x :: s, [], h => by simp at h
  | x :: s, y :: t, h => by
    rw [List.cons_prefix_cons] at h
    obtain ⟨rfl, h⟩ := h
    simp only [cmpL, Int.lt_irrefl, if_false, cmpL_prefix h, List.length_cons, Nat.add_lt_add_iff_right]
theorem Compare_eq (s t : List Int) (hs : s.length ≤ 1000000) (ht : t.length ≤ 1000000) : m_slices_Compare s t = some (cmpL s t) := by
  rw [m_slices_Compare, Compare_l1 s t hs ht _ 0 rfl (by omega) (by omega)]
  simp only [Int.toNat_zero, List.drop_zero]
  by_cases h : s.length ≤ t.length ∧ s <+: t
  · rw [if_pos h, cmpL_prefix h.2]
    simp only [Option.bind_some]
    by_cases c : s.length < t.length
    · have d : decide ((s.length : Int) < (t.length : Int)) = true := by simp; omega
      simp [c]
    · have d : decide ((s.length : Int) < (t.length : Int)) = false := by simp; omega
      simp [c]
  · rw [if_neg h]; rfl
theorem same_l1 (a b : List Int) (ha : a.length ≤ 1000000) (hl : a.length = b.length) : ∀ (k : Nat) (i : Int), k = (a.length - i).toNat → 0 ≤ i →
    iter (m_cocketlaw01_same_l1 a b) i = some (if a.drop i.toNat = b.drop i.toNat then .inl () else .inr false)
  | 0, i, hk, hi => by
    have h : decide (i < (a.length : Int)) = false := by simp; omega
    rw [iter_eq, m_cocketlaw01_same_l1, h, List.drop_of_length_le (by omega), List.drop_of_length_le (by omega)]
    rfl
  | k + 1, i, hk, hi => by
    have hlt : i < (a.length : Int) := by omega
    have h : decide (i < (a.length : Int)) = true := by simp; omega
    obtain ⟨x, h1, h2, h3, _⟩ := idx_lt hi hlt
    obtain ⟨y, g1, g2, g3, _⟩ := idx_lt (l := b) hi (by omega)
    have ih := same_l1 a b ha hl k (i + 1) (by omega) (by omega)
    have e1 : (i + 1).toNat = i.toNat + 1 := by omega
    rw [e1] at ih
    rw [iter_eq, m_cocketlaw01_same_l1, h]
    simp only [cond_true, h1, g1, Option.bind_some, h3, g3]
    by_cases c : x = y
    · have d : decide (¬x = y) = false := by simp [c]
      rw [d, wrap_i64_eq (by omega)]
      simp only [cond_false, Option.bind_some, ih, List.cons.injEq, c, true_and]
    · have d : decide (¬x = y) = true := by simp [c]
      rw [d]
      simp [c]
theorem same_eq (a b : List Int) (ha : a.length ≤ 1000000) : m_cocketlaw01_same a b = some (decide (a = b)) := by
  rw [m_cocketlaw01_same]
  by_cases hl : a.length = b.length
  · have d : decide (¬(a.length : Int) = (b.length : Int)) = false := by simp [hl]
    rw [d, same_l1 a b ha hl _ 0 rfl (by omega)]
    simp only [Int.toNat_zero, List.drop_zero, cond_false]
    by_cases h : a = b
    · rw [if_pos h]; simp [h]
    · rw [if_neg h]; simp [h]
  · have d : decide (¬(a.length : Int) = (b.length : Int)) = true := by simp; omega
    have hne : a ≠ b := fun h => hl (by rw [h])
    rw [d]; simp [hne]
theorem walkOn_facts (n : Int) (offers : List Offer) (ho : ∀ o ∈ offers, goodOffer n o = true) (frm length : Int) (rounds : Bool) : ∀ (k : Nat) (w : Walk) (s : List Bool), (1 ≤ w.rate.Num ∧ w.rate.Num ≤ 50 ^ w.list.length) → (1 ≤ w.rate.Den ∧ w.rate.Den ≤ 50 ^ w.list.length) →
    ∀ x ∈ walkOn offers frm length rounds k w s, (x.list.length : Int) = length ∧ (1 ≤ x.rate.Num ∧ x.rate.Num ≤ 50 ^ x.list.length) ∧ (1 ≤ x.rate.Den ∧ x.rate.Den ≤ 50 ^ x.list.length)
  | 0, w, s, _, _, x, hx => by simp [walkOn] at hx
  | k + 1, w, s, h1, h2, x, hx => by
    rw [walkOn] at hx
    by_cases he : (w.list.length : Int) = length
    · rw [if_pos he] at hx
      split at hx
      · simp at hx
      · rw [List.mem_singleton] at hx; subst hx; exact ⟨he, h1, h2⟩
    · rw [if_neg he, List.mem_flatMap] at hx
      obtain ⟨⟨o, i⟩, hm, hx⟩ := hx
      split at hx
      · simp at hx
      have hmo : o ∈ offers := by
        rw [List.mem_zipIdx_iff_getElem?] at hm
        exact List.mem_of_getElem? hm
      have hg := ho o hmo
      simp only [goodOffer, decide_eq_true_eq] at hg
      have hr := ratioN_bounds (a := o.Num) (b := o.Den) (n := 50) ⟨by omega, by omega⟩ ⟨by omega, by omega⟩
      have ht := timesN_bounds (p := w.rate) (q := ratioN o.Num o.Den) (a := 50 ^ w.list.length) (b := 50) h1 h2 ⟨hr.1, hr.2.1⟩ ⟨hr.2.2.1, hr.2.2.2⟩
      refine walkOn_facts n offers ho frm length rounds k _ _ ?_ ?_ x hx
      · simp only [List.length_append, List.length_cons, List.length_nil, Int.pow_succ, Nat.zero_add]
        exact ⟨ht.1, ht.2.1⟩
      · simp only [List.length_append, List.length_cons, List.length_nil, Int.pow_succ, Nat.zero_add]
        exact ⟨ht.2.2.1, ht.2.2.2⟩
theorem walksL_facts (m : Market) (ho : ∀ o ∈ m.offers, goodOffer m.n o = true) (frm length : Int) (rounds : Bool) : ∀ x ∈ walksL m frm length rounds, (x.list.length : Int) = length ∧ (1 ≤ x.rate.Num ∧ x.rate.Num ≤ 50 ^ x.list.length) ∧ (1 ≤ x.rate.Den ∧ x.rate.Den ≤ 50 ^ x.list.length) :=
  walkOn_facts m.n m.offers ho frm length rounds _ _ _ (by simp) (by simp)
end Go.Pv

set_option linter.unusedSimpArgs false
set_option linter.unusedVariables false
namespace Go.Pv
def val : List Int → Int
  | [] => 0
  | d :: l => d + 10000 * val l
def Digs (l : List Int) : Prop := ∀ d ∈ l, 0 ≤ d ∧ d ≤ 9999
def Canon (l : List Int) : Prop := Digs l ∧ ∀ d, l.getLast? = some d → d ≠ 0
theorem Digs.nil : Digs [] := fun d h => by simp at h
theorem Canon.nil : Canon [] := ⟨Digs.nil, fun d h => by simp at h⟩
theorem Digs.cons {d : Int} {l : List Int} (h : 0 ≤ d ∧ d ≤ 9999) (hl : Digs l) : Digs (d :: l) := fun x hx => by
  rcases List.mem_cons.1 hx with rfl | hx
  · exact h
  · exact hl x hx
theorem Digs.head {d : Int} {l : List Int} (h : Digs (d :: l)) : 0 ≤ d ∧ d ≤ 9999 := h d (by simp)
theorem Digs.tail {d : Int} {l : List Int} (h : Digs (d :: l)) : Digs l := fun x hx => h x (List.mem_cons_of_mem _ hx)
theorem Digs.app {l m : List Int} (hl : Digs l) (hm : Digs m) : Digs (l ++ m) := fun x hx => by
  rcases List.mem_append.1 hx with h | h
  · exact hl x h
  · exact hm x h
theorem Digs.take {l : List Int} (h : Digs l) (n : Nat) : Digs (l.take n) := fun x hx => h x (List.mem_of_mem_take hx)
theorem Digs.drop {l : List Int} (h : Digs l) (n : Nat) : Digs (l.drop n) := fun x hx => h x (List.mem_of_mem_drop hx)
theorem Digs.set {l : List Int} (h : Digs l) (i : Nat) {d : Int} (hd : 0 ≤ d ∧ d ≤ 9999) : Digs (l.set i d) := fun x hx => by
  rcases List.mem_or_eq_of_mem_set hx with h' | rfl
  · exact h x h'
  · exact hd
theorem Digs.rep (n : Nat) : Digs (List.replicate n 0) := fun x hx => by
  have := List.eq_of_mem_replicate hx
  subst this; decide
theorem val_app (l m : List Int) : val (l ++ m) = val l + 10000 ^ l.length * val m := by
  induction l with
  | nil => simp [val]
  | cons d l ih => simp only [List.cons_append, val, ih, List.length_cons, Int.pow_succ]; rw [Int.mul_add, Int.mul_comm (10000 ^ l.length) 10000, Int.mul_assoc]; omega
theorem val_rep (n : Nat) : val (List.replicate n 0) = 0 := by
  induction n with
  | zero => rfl
  | succ n ih => simp [List.replicate_succ, val, ih]
theorem pow_pos' (n : Nat) : (0 : Int) < 10000 ^ n := Int.pow_pos (by decide)
theorem val_bounds {l : List Int} (h : Digs l) : 0 ≤ val l ∧ val l < 10000 ^ l.length := by
  induction l with
  | nil => simp [val]
  | cons d l ih =>
    have h1 := h.head
    have h2 := ih h.tail
    simp only [val, List.length_cons, Int.pow_succ]
    omega
theorem val_split (l : List Int) (n : Nat) : val l = val (l.take n) + 10000 ^ (l.take n).length * val (l.drop n) := by
  rw [← val_app, List.take_append_drop]
theorem canon_len {l : List Int} (h : Canon l) {k : Nat} (hv : val l < 10000 ^ k) : l.length ≤ k := by
  rcases Nat.lt_or_ge k l.length with hk | hk
  · exfalso
    obtain ⟨hd, hl⟩ := h
    rcases List.eq_nil_or_concat l with rfl | ⟨m, d, rfl⟩
    · simp at hk
    · have hne : d ≠ 0 := hl d (by simp)
      have hdd := hd d (by simp)
      have hm : Digs m := fun x hx => hd x (by simp [hx])
      have hb := val_bounds hm
      simp only [List.concat_eq_append, val_app, val, Int.mul_zero, Int.add_zero] at hv
      simp only [List.concat_eq_append, List.length_append, List.length_cons, List.length_nil] at hk
      have hpow : (10000 : Int) ^ k ≤ 10000 ^ m.length := by
        obtain ⟨j, hj⟩ : ∃ j, m.length = k + j := ⟨m.length - k, by omega⟩
        rw [hj, Int.pow_add]
        have := pow_pos' j
        have := pow_pos' k
        have := Int.mul_le_mul_of_nonneg_left (show (1 : Int) ≤ 10000 ^ j by omega) (show (0 : Int) ≤ 10000 ^ k by omega)
        omega
      have : (10000 : Int) ^ m.length * 1 ≤ 10000 ^ m.length * d := Int.mul_le_mul_of_nonneg_left (by omega) (by have := pow_pos' m.length; omega)
      omega
  · exact hk
theorem canon_tail {d : Int} {l : List Int} (h : Canon (d :: l)) : Canon l := by
  refine ⟨h.1.tail, fun x hx => h.2 x ?_⟩
  rw [List.getLast?_cons, hx]; rfl
theorem canon_uniq : ∀ {l m : List Int}, Canon l → Canon m → val l = val m → l = m
  | [], [], _, _, _ => rfl
  | [], d :: m, _, h, e => by
    exfalso
    have := canon_len h (k := 0) (by rw [← e]; decide)
    simp at this
  | d :: l, [], h, _, e => by
    exfalso
    have := canon_len h (k := 0) (by rw [e]; decide)
    simp at this
  | d :: l, d' :: m, h, h', e => by
    have h1 := h.1.head
    have h2 := h'.1.head
    simp only [val] at e
    have e1 : d = d' := by omega
    have e2 : val l = val m := by omega
    rw [e1, canon_uniq (canon_tail h) (canon_tail h') e2]
theorem getD_idx {l : List Int} {i : Int} (h0 : 0 ≤ i) (h1 : i < l.length) : idx l i = some (l.getD i.toNat 0) := by
  rw [idx_pos h0]
  simp only [List.getD]
  rw [List.getElem?_eq_getElem (by omega)]; rfl
theorem take_succ_getD {l : List Int} {n : Nat} (h : n < l.length) : l.take (n + 1) = l.take n ++ [l.getD n 0] := by
  rw [List.take_add_one]
  simp only [List.getD, List.getElem?_eq_getElem h]; rfl
theorem Digs.getD {l : List Int} (h : Digs l) (n : Nat) : 0 ≤ l.getD n 0 ∧ l.getD n 0 ≤ 9999 := by
  simp only [List.getD]
  cases hx : l[n]? with
  | none => simp
  | some d => exact h d (List.mem_of_getElem? hx)
theorem trim_l1 (d : List Int) (hd : d.length ≤ 1000000) : ∀ (n : Nat), n ≤ d.length → val (d.drop n) = 0 → Digs d →
    ∃ r : Nat, iter (m_cocketref01_trim_l1 d) (n : Int) = some (r : Int) ∧ r ≤ d.length ∧ val (d.drop r) = 0 ∧ (r = 0 ∨ d.getD (r - 1) 0 ≠ 0)
  | 0, _, h, _ => by
    refine ⟨0, iter_done ?_, Nat.zero_le _, h, .inl rfl⟩
    rw [m_cocketref01_trim_l1]; rfl
  | n + 1, hn, h, hD => by
    have e0 : decide ((0 : Int) < ((n + 1 : Nat) : Int)) = true := by simp
    have ew : IntKind.i64.wrap (((n + 1 : Nat) : Int) - 1) = (n : Int) := by rw [wrap_i64_eq (by omega)]; omega
    have ei : idx d (n : Int) = some (d.getD n 0) := getD_idx (by omega) (by omega)
    by_cases hz : d.getD n 0 = 0
    · have hdz : val (d.drop n) = 0 := by
        rw [List.drop_eq_getElem_cons (by omega)]
        have : d[n] = 0 := by
          rw [← hz]; simp [List.getD, List.getElem?_eq_getElem (show n < d.length by omega)]
        simp only [val, this, h]; omega
      obtain ⟨r, h1, h2⟩ := trim_l1 d hd n (by omega) hdz hD
      refine ⟨r, iter_step (s' := (n : Int)) ?_ h1, h2⟩
      rw [m_cocketref01_trim_l1, e0, ew]
      simp only [cond_true, ei, Option.bind_some, hz, decide_true]
    · refine ⟨n + 1, iter_done ?_, hn, h, .inr (by simpa using hz)⟩
      rw [m_cocketref01_trim_l1, e0, ew]
      simp only [cond_true, ei, Option.bind_some, hz, decide_false, cond_false]
theorem trim_l2 (d : List Int) (r : Nat) (hr : r ≤ d.length) (hd : d.length ≤ 1000000) : ∀ (k i : Nat), k = r - i → i ≤ r → iter (m_cocketref01_trim_l2 d (r : Int)) ((i : Int), d.take i) = some (d.take r)
  | 0, i, hk, hi => by
    have : i = r := by omega
    subst this
    refine iter_done ?_
    rw [m_cocketref01_trim_l2]
    have e : decide ((i : Int) < (i : Int)) = false := by simp
    rw [e]; rfl
  | k + 1, i, hk, hi => by
    refine iter_step (s' := (((i + 1 : Nat) : Int), d.take (i + 1))) ?_ (trim_l2 d r hr hd k (i + 1) (by omega) (by omega))
    rw [m_cocketref01_trim_l2]
    have e : decide ((i : Int) < (r : Int)) = true := by simp; omega
    have ei : idx d (i : Int) = some (d.getD i 0) := getD_idx (by omega) (by omega)
    rw [e]
    simp only [cond_true, ei, Option.bind_some]
    rw [guardO_pos (by simp; omega), wrap_i64_eq (by omega), take_succ_getD (by omega)]
    rfl
theorem trim_eq {d : List Int} (hd : d.length ≤ 1000000) (hD : Digs d) : ∃ r, m_cocketref01_trim d = some r ∧ Canon r ∧ val r = val d ∧ r.length ≤ d.length := by
  obtain ⟨r, h1, h2, h3, h4⟩ := trim_l1 d hd d.length (Nat.le_refl _) (by rw [List.drop_length]; rfl) hD
  have h5 := trim_l2 d r h2 hd r 0 (by omega) (by omega)
  refine ⟨d.take r, ?_, ⟨hD.take r, fun x hx => ?_⟩, ?_, by simp; omega⟩
  · rw [m_cocketref01_trim, h1]
    simp only [Option.bind_some]
    rw [show ((0 : Int), ([] : List Int)) = (((0 : Nat) : Int), d.take 0) by simp, h5]; rfl
  · rcases h4 with h4 | h4
    · subst h4; simp at hx
    · have hr1 : 1 ≤ r := by
        rcases Nat.eq_zero_or_pos r with h | h
        · subst h; simp at hx
        · exact h
      obtain ⟨j, rfl⟩ : ∃ j, r = j + 1 := ⟨r - 1, by omega⟩
      rw [take_succ_getD (by omega)] at hx
      simp at hx
      subst hx; simpa using h4
  · rw [val_split d r, h3]; omega
structure IsB (b : Big) (x : Int) : Prop where
  pos : b.Neg = false
  can : Canon b.D
  val : val b.D = x
theorem IsB.uniq {b c : Big} {x : Int} (h : IsB b x) (h' : IsB c x) : b = c := by
  obtain ⟨n, d⟩ := b
  obtain ⟨n', d'⟩ := c
  have h1 := h.pos
  have h2 := h'.pos
  have h3 := canon_uniq h.can h'.can (h.val.trans h'.val.symm)
  simp only at h1 h2 h3
  subst h1 h2 h3; rfl
theorem IsB.nonneg {b : Big} {x : Int} (h : IsB b x) : 0 ≤ x := by rw [← h.val]; exact (val_bounds h.can.1).1
theorem whole_eq {d : List Int} (hd : d.length ≤ 1000000) (hD : Digs d) : ∃ b, m_cocketref01_whole false d = some b ∧ IsB b (val d) := by
  obtain ⟨r, h1, h2, h3, _⟩ := trim_eq hd hD
  refine ⟨⟨false, r⟩, ?_, rfl, h2, h3⟩
  rw [m_cocketref01_whole, h1]; rfl
end Go.Pv

set_option linter.unusedSimpArgs false
set_option linter.unusedVariables false
namespace Go.Pv
theorem val_set : ∀ {l : List Int} {j : Nat} {x : Int}, j < l.length → val (l.set j x) = val l + (x - l.getD j 0) * 10000 ^ j
  | d :: l, 0, x, _ => by simp [val]; omega
  | d :: l, j + 1, x, h => by
    have ih := val_set (l := l) (j := j) (x := x) (by simpa using h)
    simp only [List.set_cons_succ, val, ih, List.getD_cons_succ, Int.pow_succ]
    rw [Int.mul_add, Int.mul_comm (10000 ^ j) 10000, ← Int.mul_assoc (x - l.getD j 0) 10000, Int.mul_comm (x - l.getD j 0) 10000, Int.mul_assoc]
    omega
theorem getD_set_ne {l : List Int} {j k : Nat} {x : Int} (h : j ≠ k) : (l.set j x).getD k 0 = l.getD k 0 := by
  simp only [List.getD, List.getElem?_set_ne h]
theorem getD_set_eq {l : List Int} {j : Nat} {x : Int} (h : j < l.length) : (l.set j x).getD j 0 = x := by
  simp only [List.getD, List.getElem?_set_self h]; rfl
theorem alg_mul (P T R e1 e2 e3 c V B D : Int) (ht : e1 + e2 * e3 + c = B * T + R) : V + (R - e1) * P + T * (P * B) + e2 * (P * B) * D = V + c * P + e2 * P * (e3 + B * D) := by
  have h := congrArg (· * P) ht
  simp only [Int.mul_add, Int.add_mul, Int.sub_mul, Int.mul_sub, Int.mul_assoc, Int.mul_comm, Int.mul_left_comm] at h ⊢
  omega
theorem mul9999 {x y : Int} (hx : 0 ≤ x ∧ x ≤ 9999) (hy : 0 ≤ y ∧ y ≤ 9999) : 0 ≤ x * y ∧ x * y ≤ 99980001 := by
  have h1 := Int.mul_nonneg hx.1 hy.1
  have h2 := Int.mul_le_mul hx.2 hy.2 hy.1 (show (0 : Int) ≤ 9999 by decide)
  omega
theorem mulD_l2 (a b : List Int) (i : Nat) (hi : i < a.length) (ha : Digs a) (hb : Digs b) (hab : a.length + b.length ≤ 1000000) : ∀ (n k : Nat) (c : Int) (L : List Int), n = b.length - k → k ≤ b.length → Digs L → L.length = a.length + b.length → (0 ≤ c ∧ c ≤ 9999) →
    ∃ c' L', iter (m_cocketref01_mulD_l2 a b (i : Int)) (c, (k : Int), L) = some (c', L') ∧ Digs L' ∧ L'.length = a.length + b.length ∧ (0 ≤ c' ∧ c' ≤ 9999) ∧ (∀ j, i + b.length ≤ j → L'.getD j 0 = L.getD j 0) ∧
      val L' + c' * 10000 ^ (i + b.length) = val L + c * 10000 ^ (i + k) + a.getD i 0 * 10000 ^ (i + k) * val (b.drop k)
  | 0, k, c, L, hn, hk, hD, hl, hc => by
    have e : k = b.length := by omega
    subst e
    refine ⟨c, L, iter_done ?_, hD, hl, hc, fun _ _ => rfl, ?_⟩
    · rw [m_cocketref01_mulD_l2]
      have e : decide (((b.length : Nat) : Int) < (b.length : Int)) = false := by simp
      rw [e]; rfl
    · rw [List.drop_length]; simp [val]
  | n + 1, k, c, L, hn, hk, hD, hl, hc => by
    have e : decide ((k : Int) < (b.length : Int)) = true := by simp; omega
    have ew : IntKind.i64.wrap ((i : Int) + (k : Int)) = ((i + k : Nat) : Int) := by rw [wrap_i64_eq (by omega)]; omega
    have e1 : idx L ((i + k : Nat) : Int) = some (L.getD (i + k) 0) := getD_idx (by omega) (by omega)
    have e2 : idx a (i : Int) = some (a.getD i 0) := getD_idx (by omega) (by omega)
    have e3 : idx b (k : Int) = some (b.getD k 0) := getD_idx (by omega) (by omega)
    have d1 := hD.getD (i + k)
    have d2 := ha.getD i
    have d3 := hb.getD k
    have hp := mul9999 d2 d3
    have ht0 : 0 ≤ L.getD (i + k) 0 + a.getD i 0 * b.getD k 0 + c := by omega
    have hw : IntKind.i64.wrap (IntKind.i64.wrap (L.getD (i + k) 0 + IntKind.i64.wrap (a.getD i 0 * b.getD k 0)) + c) = L.getD (i + k) 0 + a.getD i 0 * b.getD k 0 + c := by
      rw [wrap_i64_eq (x := a.getD i 0 * b.getD k 0) (by omega), wrap_i64_eq (x := L.getD (i + k) 0 + a.getD i 0 * b.getD k 0) (by omega), wrap_i64_eq (by omega)]
    have hdr : val (b.drop k) = b.getD k 0 + 10000 * val (b.drop (k + 1)) := by
      rw [List.drop_eq_getElem_cons (by omega)]
      simp [val, List.getD, List.getElem?_eq_getElem (show k < b.length by omega)]
    generalize ht : L.getD (i + k) 0 + a.getD i 0 * b.getD k 0 + c = t at *
    have hm := Int.emod_add_mul_ediv t 10000
    have hm1 := Int.emod_nonneg t (show (10000 : Int) ≠ 0 by decide)
    have hm2 := Int.emod_lt_of_pos t (show (0 : Int) < 10000 by decide)
    have hL : Digs (L.set (i + k) (t % 10000)) := hD.set _ ⟨hm1, by omega⟩
    obtain ⟨c', L', h1, h2, h3, h4, h5, h6⟩ := mulD_l2 a b i hi ha hb hab n (k + 1) (t / 10000) (L.set (i + k) (t % 10000)) (by omega) (by omega) hL (by simpa using hl) ⟨by omega, by omega⟩
    refine ⟨c', L', iter_step (s' := (t / 10000, ((k + 1 : Nat) : Int), L.set (i + k) (t % 10000))) ?_ h1, h2, h3, h4, fun j hj => ?_, ?_⟩
    · rw [m_cocketref01_mulD_l2, e, ew]
      simp only [cond_true, e1, e2, e3, Option.bind_some]
      rw [hw, tdiv_eq ht0, tmod_eq ht0, wrap_i64_eq (x := t / 10000) (by omega), wrap_i64_eq (by omega), Int.toNat_natCast]
      rfl
    · rw [h5 j hj, getD_set_ne (by omega)]
    · rw [h6, val_set (by omega), hdr, show i + (k + 1) = (i + k) + 1 by omega, Int.pow_succ]
      exact alg_mul _ _ _ _ _ _ _ _ _ _ (by omega)
theorem mulD_l1 (a b : List Int) (ha : Digs a) (hb : Digs b) (hab : a.length + b.length ≤ 1000000) : ∀ (n i : Nat) (L : List Int), n = a.length - i → i ≤ a.length → Digs L → L.length = a.length + b.length → (∀ j, i + b.length ≤ j → L.getD j 0 = 0) → val L = val (a.take i) * val b →
    ∃ L', iter (m_cocketref01_mulD_l1 a b) ((i : Int), L) = some L' ∧ Digs L' ∧ L'.length = a.length + b.length ∧ val L' = val a * val b
  | 0, i, L, hn, hi, hD, hl, hz, hv => by
    have e : i = a.length := by omega
    subst e
    refine ⟨L, iter_done ?_, hD, hl, by rw [hv, List.take_length]⟩
    rw [m_cocketref01_mulD_l1]
    have e : decide (((a.length : Nat) : Int) < (a.length : Int)) = false := by simp
    rw [e]; rfl
  | n + 1, i, L, hn, hi, hD, hl, hz, hv => by
    have e : decide ((i : Int) < (a.length : Int)) = true := by simp; omega
    obtain ⟨c', L', h1, h2, h3, h4, h5, h6⟩ := mulD_l2 a b i (by omega) ha hb hab b.length 0 0 L (by omega) (by omega) hD hl ⟨by omega, by omega⟩
    have ew : IntKind.i64.wrap ((i : Int) + (b.length : Int)) = ((i + b.length : Nat) : Int) := by rw [wrap_i64_eq (by omega)]; omega
    have e5 : idx L' ((i + b.length : Nat) : Int) = some (L'.getD (i + b.length) 0) := getD_idx (by omega) (by omega)
    have hz' : L'.getD (i + b.length) 0 = 0 := by rw [h5 _ (Nat.le_refl _)]; exact hz _ (Nat.le_refl _)
    have hv2 : val (L'.set (i + b.length) c') = val (a.take (i + 1)) * val b := by
      rw [val_set (by omega), hz', take_succ_getD (by omega), val_app, List.length_take, Nat.min_eq_left (by omega)]
      have := h6
      simp only [List.drop_zero, Nat.add_zero, Int.zero_mul, Int.add_zero, hv, val, Int.mul_zero] at this ⊢
      rw [Int.sub_zero, this, Int.add_mul, Int.mul_comm (a.getD i 0)]
    obtain ⟨L2, g1, g2, g3, g4⟩ := mulD_l1 a b ha hb hab n (i + 1) (L'.set (i + b.length) c') (by omega) (by omega) (h2.set _ h4) (by simpa using h3) (fun j hj => by rw [getD_set_ne (by omega), h5 j (by omega)]; exact hz j (by omega)) hv2
    refine ⟨L2, iter_step (s' := (((i + 1 : Nat) : Int), L'.set (i + b.length) c')) ?_ g1, g2, g3, g4⟩
    rw [m_cocketref01_mulD_l1, e]
    rw [show ((0 : Nat) : Int) = 0 from rfl] at h1
    simp only [cond_true, h1, Option.bind_some, ew, e5]
    rw [wrap_i64_eq (by omega), Int.toNat_natCast]
    rfl
theorem mulD_eq {a b : List Int} (ha : Digs a) (hb : Digs b) (hab : a.length + b.length ≤ 1000000) : ∃ r, m_cocketref01_mulD a b = some r ∧ Canon r ∧ val r = val a * val b := by
  have ew : IntKind.i64.wrap ((a.length : Int) + (b.length : Int)) = ((a.length + b.length : Nat) : Int) := by rw [wrap_i64_eq (by omega)]; omega
  obtain ⟨L, h1, h2, h3, h4⟩ := mulD_l1 a b ha hb hab a.length 0 (List.replicate (a.length + b.length) 0) (by omega) (by omega) (Digs.rep _) (by simp) (fun j _ => by
    simp only [List.getD]
    cases hx : (List.replicate (a.length + b.length) (0 : Int))[j]? with
    | none => rfl
    | some x => exact List.eq_of_mem_replicate (List.mem_of_getElem? hx)) (by rw [val_rep]; simp [val])
  obtain ⟨r, g1, g2, g3, _⟩ := trim_eq (d := L) (by omega) h2
  refine ⟨r, ?_, g2, by rw [g3, h4]⟩
  rw [show ((0 : Nat) : Int) = 0 from rfl] at h1
  rw [m_cocketref01_mulD, ew, guardO_pos ⟨by omega, by omega⟩, Int.toNat_natCast, h1]
  simp only [Option.bind_some, g1]
def sgn (x : Int) : Int := if x < 0 then -1 else if 0 < x then 1 else 0
theorem cmpD_l1 (a b : List Int) (ha : Digs a) (hb : Digs b) (hab : a.length = b.length) (hl : a.length ≤ 1000000) : ∀ (n : Nat), n ≤ a.length → a.drop n = b.drop n →
    (iter (m_cocketref01_cmpD_l1 a b) ((n : Int) - 1)).bind (fun o => match o with | .inl _ => some 0 | .inr y => some y) = some (sgn (val a - val b))
  | 0, _, h => by
    have e : a = b := by simpa using h
    subst e
    have e : decide ((0 : Int) ≤ ((0 : Nat) : Int) - 1) = false := by decide
    rw [iter_eq, m_cocketref01_cmpD_l1, e, Int.sub_self]; rfl
  | n + 1, hn, h => by
    have e0 : (((n + 1 : Nat) : Int) - 1) = (n : Int) := by omega
    have e : decide ((0 : Int) ≤ (n : Int)) = true := by simp
    have e1 : idx a (n : Int) = some (a.getD n 0) := getD_idx (by omega) (by omega)
    have e2 : idx b (n : Int) = some (b.getD n 0) := getD_idx (by omega) (by omega)
    rw [e0, iter_eq, m_cocketref01_cmpD_l1, e]
    simp only [cond_true, e1, e2, Option.bind_some]
    have hva := val_split a (n + 1)
    have hvb := val_split b (n + 1)
    rw [take_succ_getD (by omega), val_app] at hva
    rw [take_succ_getD (by omega), val_app, ← h] at hvb
    simp only [List.length_append, List.length_take, List.length_cons, List.length_nil, Nat.min_eq_left (show n ≤ a.length by omega)] at hva
    simp only [List.length_append, List.length_take, List.length_cons, List.length_nil, Nat.min_eq_left (show n ≤ b.length by omega)] at hvb
    have ba := val_bounds (ha.take n)
    have bb := val_bounds (hb.take n)
    rw [List.length_take, Nat.min_eq_left (by omega)] at ba bb
    simp only [val, Int.mul_zero, Int.add_zero] at hva hvb
    rcases Int.lt_trichotomy (a.getD n 0) (b.getD n 0) with hc | hc | hc
    · have d : decide (a.getD n 0 < b.getD n 0) = true := by simpa using hc
      have hm := Int.mul_le_mul_of_nonneg_left (show a.getD n 0 + 1 ≤ b.getD n 0 by omega) (show (0 : Int) ≤ 10000 ^ n by have := pow_pos' n; omega)
      rw [Int.mul_add, Int.mul_one] at hm
      have hs : val a - val b < 0 := by
        omega
      rw [d, sgn, if_pos hs]; rfl
    · have d : decide (a.getD n 0 < b.getD n 0) = false := decide_eq_false (by omega)
      have d2 : decide (b.getD n 0 < a.getD n 0) = false := decide_eq_false (by omega)
      have ih := cmpD_l1 a b ha hb hab hl n (by omega) (by
        rw [List.drop_eq_getElem_cons (by omega), List.drop_eq_getElem_cons (show n < b.length by omega), h]
        simp only [List.getD, List.getElem?_eq_getElem (show n < a.length by omega), List.getElem?_eq_getElem (show n < b.length by omega), Option.getD_some] at hc
        rw [hc])
      rw [d, d2, wrap_i64_eq (by omega)]
      exact ih
    · have d : decide (a.getD n 0 < b.getD n 0) = false := decide_eq_false (by omega)
      have d2 : decide (b.getD n 0 < a.getD n 0) = true := by simpa using hc
      have hm := Int.mul_le_mul_of_nonneg_left (show b.getD n 0 + 1 ≤ a.getD n 0 by omega) (show (0 : Int) ≤ 10000 ^ n by have := pow_pos' n; omega)
      rw [Int.mul_add, Int.mul_one] at hm
      have hs : 0 < val a - val b := by omega
      have hs2 : ¬ val a - val b < 0 := by omega
      rw [d, d2, sgn, if_neg hs2, if_pos hs]; rfl
theorem canon_lt {a b : List Int} (ha : Canon a) (hb : Canon b) (h : a.length < b.length) : val a < val b := by
  rcases Int.lt_or_le (val a) (val b) with h1 | h1
  · exact h1
  · have h2 := val_bounds ha.1
    have := canon_len hb (k := a.length) (by omega)
    omega
theorem cmpD_eq {a b : List Int} (ha : Canon a) (hb : Canon b) (hal : a.length ≤ 1000000) (hbl : b.length ≤ 1000000) : m_cocketref01_cmpD a b = some (sgn (val a - val b)) := by
  rw [m_cocketref01_cmpD]
  by_cases h1 : a.length < b.length
  · have d : decide ((a.length : Int) < (b.length : Int)) = true := by simp; omega
    have := canon_lt ha hb h1
    have hs : val a - val b < 0 := by omega
    rw [d, sgn, if_pos hs]; rfl
  have d : decide ((a.length : Int) < (b.length : Int)) = false := by simp; omega
  rw [d]
  by_cases h2 : b.length < a.length
  · have d : decide ((b.length : Int) < (a.length : Int)) = true := by simp; omega
    have := canon_lt hb ha h2
    have hs : 0 < val a - val b := by omega
    have hs2 : ¬ val a - val b < 0 := by omega
    rw [d, sgn, if_neg hs2, if_pos hs]; rfl
  have d2 : decide ((b.length : Int) < (a.length : Int)) = false := by simp; omega
  have hl : a.length = b.length := by omega
  have := cmpD_l1 a b ha.1 hb.1 hl hal a.length (Nat.le_refl _) (by rw [List.drop_length, List.drop_of_length_le (by omega)])
  rw [d2, wrap_i64_eq (by omega)]
  simp only [cond_false]
  obtain ⟨x, g1, g2⟩ := bind_some this
  rw [g1]
  rcases x with x | x <;> exact g2
end Go.Pv

set_option linter.unusedSimpArgs false
set_option linter.unusedVariables false
namespace Go.Pv
theorem val_take_succ (l : List Int) (i : Nat) : val (l.take (i + 1)) = val (l.take i) + 10000 ^ i * l.getD i 0 := by
  rcases Nat.lt_or_ge i l.length with h | h
  · rw [take_succ_getD h, val_app, List.length_take, Nat.min_eq_left (by omega)]
    simp only [val, Int.mul_zero, Int.add_zero]
  · rw [List.take_of_length_le (by omega), List.take_of_length_le (by omega)]
    have : l.getD i 0 = 0 := by simp [List.getD, List.getElem?_eq_none (show l.length ≤ i by omega)]
    rw [this]; omega
theorem val_drop (l : List Int) (n : Nat) (h : n < l.length) : val (l.drop n) = l.getD n 0 + 10000 * val (l.drop (n + 1)) := by
  rw [List.drop_eq_getElem_cons h]
  simp [val, List.getD, List.getElem?_eq_getElem h]
theorem subD_l1 (a b : List Int) (ha : Digs a) (hb : Digs b) (hl : a.length ≤ 1000000) (hbl : b.length ≤ 1000000) : ∀ (n i : Nat) (br : Int) (L : List Int), n = a.length - i → i ≤ a.length → (br = 0 ∨ br = 1) → Digs L → L.length = i →
    val L = val (a.take i) - val (b.take i) + br * 10000 ^ i → ∃ L' br', iter (m_cocketref01_subD_l1 a b) (br, (i : Int), L) = some L' ∧ (br' = 0 ∨ br' = 1) ∧ Digs L' ∧ L'.length = a.length ∧ val L' = val a - val (b.take a.length) + br' * 10000 ^ a.length
  | 0, i, br, L, hn, hi, hbr, hD, hL, hv => by
    have e : i = a.length := by omega
    subst e
    refine ⟨L, br, iter_done ?_, hbr, hD, hL, by rw [hv, List.take_length]⟩
    rw [m_cocketref01_subD_l1]
    have e : decide (((a.length : Nat) : Int) < (a.length : Int)) = false := by simp
    rw [e]; rfl
  | n + 1, i, br, L, hn, hi, hbr, hD, hL, hv => by
    have e : decide ((i : Int) < (a.length : Int)) = true := decide_eq_true (by omega)
    have e1 : idx a (i : Int) = some (a.getD i 0) := getD_idx (by omega) (by omega)
    have d1 := ha.getD i
    have d2 := hb.getD i
    have hs : ((cond (decide ((i : Int) < (b.length : Int))) ((idx b (i : Int)).bind fun e2 => some (IntKind.i64.wrap ((IntKind.i64.wrap (a.getD i 0 - br)) - e2))) (some (IntKind.i64.wrap (a.getD i 0 - br)))) : Option Int) = some (a.getD i 0 - br - b.getD i 0) := by
      by_cases hib : i < b.length
      · have d : decide ((i : Int) < (b.length : Int)) = true := decide_eq_true (by omega)
        have e2 : idx b (i : Int) = some (b.getD i 0) := getD_idx (by omega) (by omega)
        rw [d]
        simp only [cond_true, e2, Option.bind_some]
        rw [wrap_i64_eq (x := a.getD i 0 - br) (by omega), wrap_i64_eq (by omega)]
      · have d : decide ((i : Int) < (b.length : Int)) = false := decide_eq_false (by omega)
        have hz : b.getD i 0 = 0 := by simp [List.getD, List.getElem?_eq_none (show b.length ≤ i by omega)]
        rw [d, hz]
        simp only [cond_false]
        rw [wrap_i64_eq (by omega)]
        simp
    have ea := val_take_succ a i
    have eb := val_take_succ b i
    generalize ht : a.getD i 0 - br - b.getD i 0 = t at hs
    have hb2 : ∃ br2 s2, ((cond (decide (t < 0)) (some (1, IntKind.i64.wrap (t + 10000))) (some (0, t))) : Option (Int × Int)) = some (br2, s2) ∧ (br2 = 0 ∨ br2 = 1) ∧ (0 ≤ s2 ∧ s2 ≤ 9999) ∧ s2 = t + br2 * 10000 := by
      by_cases hn : t < 0
      · refine ⟨1, t + 10000, ?_, .inr rfl, by omega, by omega⟩
        rw [decide_eq_true hn, wrap_i64_eq (by omega)]; rfl
      · refine ⟨0, t, ?_, .inl rfl, by omega, by omega⟩
        rw [decide_eq_false hn]; rfl
    obtain ⟨br2, s2, hbs, hbr2, hs2, hst⟩ := hb2
    have hv2 : val (L ++ [s2]) = val (a.take (i + 1)) - val (b.take (i + 1)) + br2 * 10000 ^ (i + 1) := by
      rw [val_app, hL, ea, eb, hv, Int.pow_succ]
      simp only [val, Int.mul_zero, Int.add_zero]
      have h1 := congrArg (· * (10000 : Int) ^ i) (hst.trans (by rw [← ht]))
      generalize (10000 : Int) ^ i = P at *
      generalize a.getD i 0 = A at *
      generalize b.getD i 0 = B at *
      simp only [Int.mul_add, Int.add_mul, Int.sub_mul, Int.mul_sub, Int.mul_assoc, Int.mul_comm, Int.mul_left_comm] at h1 ⊢
      omega
    obtain ⟨L', br', g1, g2⟩ := subD_l1 a b ha hb hl hbl n (i + 1) br2 (L ++ [s2]) (by omega) (by omega) hbr2 (hD.app (Digs.cons hs2 Digs.nil)) (by simp; omega) hv2
    refine ⟨L', br', iter_step (s' := (br2, ((i + 1 : Nat) : Int), L ++ [s2])) ?_ g1, g2⟩
    rw [m_cocketref01_subD_l1, e]
    simp only [cond_true, e1, Option.bind_some, hs, hbs]
    rw [guardO_pos (by simp; omega), wrap_i64_eq (by omega)]
    rfl
theorem subD_eq {a b : List Int} (ha : Canon a) (hb : Canon b) (hal : a.length ≤ 1000000) (hle : val b ≤ val a) : ∃ r, m_cocketref01_subD a b = some r ∧ Canon r ∧ val r = val a - val b ∧ r.length ≤ a.length := by
  have hbl : b.length ≤ a.length := by
    rcases Nat.lt_or_ge a.length b.length with h | h
    · have := canon_lt ha hb h; omega
    · exact h
  obtain ⟨L, br, h1, h2, h3, h4, h5⟩ := subD_l1 a b ha.1 hb.1 hal (by omega) a.length 0 0 [] (by omega) (by omega) (.inl rfl) Digs.nil rfl (by simp [val])
  rw [List.take_of_length_le hbl] at h5
  have hb0 : br = 0 := by
    rcases h2 with h | h
    · exact h
    · have := (val_bounds h3).2
      rw [h4] at this
      subst h; omega
  subst hb0
  obtain ⟨r, g1, g2, g3, g4⟩ := trim_eq (d := L) (by omega) h3
  refine ⟨r, ?_, g2, by rw [g3, h5]; omega, by omega⟩
  rw [show ((0 : Nat) : Int) = 0 from rfl] at h1
  rw [m_cocketref01_subD, h1]
  simp only [Option.bind_some, g1]
theorem sgn_le (x : Int) : sgn x ≤ 0 ↔ x ≤ 0 := by
  unfold sgn
  split
  · omega
  · split <;> omega
theorem sgn_pos (x : Int) : 0 < sgn x ↔ 0 < x := by
  unfold sgn
  split
  · omega
  · split <;> omega
theorem digs1 {x : Int} (h : 0 ≤ x ∧ x ≤ 9999) : Digs [x] := Digs.cons h Digs.nil
theorem mulB {b : List Int} (hb : Canon b) (hbl : b.length ≤ 1000) {q : Int} (hq : 0 ≤ q ∧ q ≤ 9999) : ∃ r2 r3, m_cocketref01_trim [q] = some r2 ∧ m_cocketref01_mulD b r2 = some r3 ∧ Canon r3 ∧ val r3 = val b * q ∧ r3.length ≤ 2000 := by
  obtain ⟨r2, h1, h2, h3, h4⟩ := trim_eq (d := [q]) (by simp) (digs1 hq)
  obtain ⟨r3, g1, g2, g3⟩ := mulD_eq (a := b) (b := r2) hb.1 h2.1 (by simp at h4; omega)
  refine ⟨r2, r3, h1, g1, g2, by rw [g3, h3]; simp [val], ?_⟩
  have hb2 := val_bounds hb.1
  have hb3 := val_bounds h2.1
  refine Nat.le_trans (canon_len g2 (k := b.length + r2.length) ?_) (by simp at h4; omega)
  rw [g3, Int.pow_add]
  exact Int.mul_lt_mul' (by omega) hb3.2 hb3.1 (pow_pos' _)
theorem divD_l2 {b r1 : List Int} (hb : Canon b) (hbl : b.length ≤ 1000) (hr : Canon r1) (hrl : r1.length ≤ 2000) (h0 : 0 < val b) (hlt : val r1 < val b * 10000) :
    ∃ q, iter (m_cocketref01_divD_l2 b r1) (0, 9999) = some q ∧ (0 ≤ q ∧ q ≤ 9999 ∧ val b * q ≤ val r1 ∧ val r1 < val b * (q + 1)) := by
  have hr0 := (val_bounds hr.1).1
  refine iter_inv (fun s : Int × Int => 0 ≤ s.1 ∧ s.1 ≤ s.2 ∧ s.2 ≤ 9999 ∧ val b * s.1 ≤ val r1 ∧ val r1 < val b * (s.2 + 1)) _ (fun s => (s.2 - s.1).toNat) ?_ ⟨by decide, by decide, by decide, by simpa using hr0, by simpa using hlt⟩
  rintro ⟨lo, hi⟩ ⟨h1, h2, h3, h4, h5⟩
  dsimp only at h1 h2 h3 h4 h5
  rw [m_cocketref01_divD_l2]
  by_cases hc : lo < hi
  · rw [decide_eq_true hc]
    have hw : IntKind.i64.wrap ((IntKind.i64.wrap ((IntKind.i64.wrap (lo + hi)) + 1)).tdiv 2) = (lo + hi + 1) / 2 := by
      rw [wrap_i64_eq (x := lo + hi) (by omega), wrap_i64_eq (x := lo + hi + 1) (by omega), tdiv_eq (by omega), wrap_i64_eq (by omega)]
    rw [hw]
    generalize hm : (lo + hi + 1) / 2 = m
    have hm1 : lo < m ∧ m ≤ hi := by omega
    obtain ⟨r2, r3, g1, g2, g3, g4, g5⟩ := mulB hb hbl (q := m) (by omega)
    simp only [cond_true, g1, g2, Option.bind_some, cmpD_eq g3 hr (by omega) (by omega)]
    by_cases hle : val b * m ≤ val r1
    · have hs : sgn (val r3 - val r1) ≤ 0 := (sgn_le _).2 (by omega)
      rw [decide_eq_true hs]
      exact ⟨_, rfl, ⟨by dsimp only; omega, by dsimp only; omega, h3, hle, h5⟩, by dsimp only; omega⟩
    · have hs : ¬ sgn (val r3 - val r1) ≤ 0 := fun h => by have := (sgn_le _).1 h; omega
      rw [decide_eq_false hs, wrap_i64_eq (by omega)]
      exact ⟨_, rfl, ⟨h1, by dsimp only; omega, by dsimp only; omega, h4, by dsimp only; rw [show m - 1 + 1 = m by omega]; omega⟩, by dsimp only; omega⟩
  · rw [decide_eq_false hc]
    have : lo = hi := by omega
    subst this
    exact ⟨_, rfl, h1, h3, h4, h5⟩
theorem alg_div (e Q b r q r' : Int) (h : r' = e + 10000 * r - b * q) : e + 10000 * (Q * b + r) = (q + 10000 * Q) * b + r' := by
  subst h
  generalize (10000 : Int) = K
  simp only [Int.mul_add, Int.add_mul, Int.sub_mul, Int.mul_sub, Int.mul_assoc, Int.mul_comm, Int.mul_left_comm]
  omega
theorem divD_l1 (a b : List Int) (ha : Digs a) (hal : a.length ≤ 1000) (hb : Canon b) (hbl : b.length ≤ 1000) (h0 : 0 < val b) : ∀ (n : Nat) (rem L : List Int), n ≤ a.length → Canon rem → val rem < val b → Digs L → L.length = a.length →
    val (a.drop n) = val (L.drop n) * val b + val rem →
    ∃ rem' L', iter (m_cocketref01_divD_l1 a b) (rem, (n : Int) - 1, L) = some (rem', L') ∧ Canon rem' ∧ val rem' < val b ∧ Digs L' ∧ L'.length = a.length ∧ val a = val L' * val b + val rem'
  | 0, rem, L, hn, hr, hrb, hD, hL, hv => by
    refine ⟨rem, L, iter_done ?_, hr, hrb, hD, hL, by simpa using hv⟩
    rw [m_cocketref01_divD_l1]; rfl
  | n + 1, rem, L, hn, hr, hrb, hD, hL, hv => by
    have e0 : (((n + 1 : Nat) : Int) - 1) = (n : Int) := by omega
    have e : decide ((0 : Int) ≤ (n : Int)) = true := by simp
    have e1 : idx a (n : Int) = some (a.getD n 0) := getD_idx (by omega) (by omega)
    have e2 : idx L (n : Int) = some (L.getD n 0) := getD_idx (by omega) (by omega)
    have d1 := ha.getD n
    have hr0 := (val_bounds hr.1).1
    have hrl : rem.length ≤ b.length := canon_len hr (by have := (val_bounds hb.1).2; omega)
    obtain ⟨r1, f1, f2, f3, f4⟩ := trim_eq (d := [a.getD n 0] ++ rem) (by simp; omega) ((digs1 d1).app hr.1)
    have hr1 : val r1 = a.getD n 0 + 10000 * val rem := by rw [f3]; rfl
    have hr1l : r1.length ≤ 2000 := by simp at f4; omega
    obtain ⟨q, g1, g2, g3, g4, g5⟩ := divD_l2 hb hbl f2 hr1l h0 (by rw [hr1]; omega)
    obtain ⟨r5, r6, k1, k2, k3, k4, k5⟩ := mulB hb hbl (q := q) ⟨g2, g3⟩
    obtain ⟨r7, s1, s2, s3, s4⟩ := subD_eq f2 k3 (by omega) (by omega)
    have hr7 : val r7 < val b := by
      rw [s3, k4]
      rw [Int.mul_add] at g5
      omega
    have hv2 : val (a.drop n) = val ((L.set n q).drop n) * val b + val r7 := by
      rw [val_drop a n (by omega), val_drop (L.set n q) n (by simp; omega), getD_set_eq (by omega), hv]
      have hdrop : (L.set n q).drop (n + 1) = L.drop (n + 1) := by rw [List.drop_set]; simp
      rw [hdrop]
      exact alg_div _ _ _ _ _ _ (by rw [s3, k4, hr1])
    obtain ⟨rem', L', t1, t2⟩ := divD_l1 a b ha hal hb hbl h0 n r7 (L.set n q) (by omega) s2 hr7 (hD.set n ⟨g2, g3⟩) (by simpa using hL) hv2
    refine ⟨rem', L', iter_step (s' := (r7, (n : Int) - 1, L.set n q)) ?_ t1, t2⟩
    rw [e0, m_cocketref01_divD_l1, e]
    simp only [cond_true, e1, Option.bind_some]
    rw [guardO_pos (by omega), f1]
    simp only [Option.bind_some, g1, e2, k1, k2, s1, Int.toNat_natCast]
    rw [wrap_i64_eq (by omega)]
theorem divD_eq {a b : List Int} (ha : Canon a) (hal : a.length ≤ 1000) (hb : Canon b) (hbl : b.length ≤ 1000) (h0 : 0 < val b) : ∃ q r, m_cocketref01_divD a b = some (q, r) ∧ Canon q ∧ Canon r ∧ val q = val a / val b ∧ val r = val a % val b := by
  have hbne : b.length ≠ 0 := fun h => by
    have : b = [] := List.length_eq_zero_iff.1 h
    subst this; simp [val] at h0
  have hb0 : decide ((b.length : Int) = 0) = false := decide_eq_false (by omega)
  obtain ⟨rem, L, h1, h2, h3, h4, h5, h6⟩ := divD_l1 a b ha.1 hal hb hbl h0 a.length [] (List.replicate a.length 0) (Nat.le_refl _) Canon.nil (by simpa [val] using h0) (Digs.rep _) (by simp) (by simp [val])
  obtain ⟨q, g1, g2, g3, g4⟩ := trim_eq (d := L) (by omega) h4
  have hr0 := (val_bounds h2.1).1
  have hq : val a / val b = val L := by
    rw [h6, Int.add_comm, Int.add_mul_ediv_right _ _ (by omega), Int.ediv_eq_zero_of_lt hr0 h3]; omega
  have hr : val a % val b = val rem := by
    rw [h6, Int.add_comm, Int.add_mul_emod_self_right, Int.emod_eq_of_lt hr0 h3]
  refine ⟨q, rem, ?_, g2, h2, by rw [g3, hq], hr.symm⟩
  rw [m_cocketref01_divD, hb0]
  simp only [cond_false]
  rw [guardO_pos ⟨by omega, by omega⟩, wrap_i64_eq (by omega), Int.toNat_natCast, h1]
  simp only [Option.bind_some, g1]
theorem gcdD_eq {a b : List Int} (ha : Canon a) (hal : a.length ≤ 1000) (hb : Canon b) (hbl : b.length ≤ 1000) : ∃ r, m_cocketref01_gcdD a b = some r ∧ Canon r ∧ val r = Int.gcd (val a) (val b) := by
  have key : ∃ x, iter m_cocketref01_gcdD_l1 (a, b) = some x ∧ (Canon x ∧ val x = Int.gcd (val a) (val b)) := by
    refine iter_inv (fun s => Canon s.1 ∧ Canon s.2 ∧ s.1.length ≤ 1000 ∧ s.2.length ≤ 1000 ∧ Int.gcd (val s.1) (val s.2) = Int.gcd (val a) (val b)) _ (fun s => (val s.2).toNat) ?_ ⟨ha, hb, hal, hbl, rfl⟩
    rintro ⟨x, y⟩ ⟨h1, h2, h3, h4, h5⟩
    dsimp only at h1 h2 h3 h4 h5
    rw [m_cocketref01_gcdD_l1]
    have hx0 := (val_bounds h1.1).1
    have hy0 := (val_bounds h2.1).1
    by_cases hc : (0 : Int) < (y.length : Int)
    · rw [decide_eq_true hc]
      have hy : 0 < val y := by
        rcases Int.lt_or_le 0 (val y) with h | h
        · exact h
        · have := canon_len h2 (k := 0) (by simp; omega)
          omega
      obtain ⟨q, r, g1, g2, g3, g4, g5⟩ := divD_eq h1 h3 h2 h4 hy
      have hr1 := Int.emod_nonneg (val x) (show val y ≠ 0 by omega)
      have hr2 := Int.emod_lt_of_pos (val x) hy
      have hrl : r.length ≤ y.length := canon_len g3 (by have := (val_bounds h2.1).2; omega)
      simp only [cond_true, g1, Option.bind_some]
      refine ⟨_, rfl, ⟨h2, g3, h4, by dsimp only; omega, ?_⟩, by dsimp only; omega⟩
      dsimp only
      rw [← h5, g5, Int.gcd_comm (val x) (val y)]
      have := Int.gcd_add_mul_left_right (val y) (val x % val y) (val x / val y)
      rw [Int.emod_add_mul_ediv] at this
      exact this.symm
    · rw [decide_eq_false hc]
      have hy : y = [] := List.length_eq_zero_iff.1 (by omega)
      subst hy
      refine ⟨_, rfl, h1, ?_⟩
      rw [← h5]; simp [val]; omega
  obtain ⟨x, h1, h2, h3⟩ := key
  exact ⟨x, by rw [m_cocketref01_gcdD, h1]; rfl, h2, h3⟩
end Go.Pv

set_option linter.unusedSimpArgs false
set_option linter.unusedVariables false
namespace Go.Pv
theorem IsB.len {b : Big} {x : Int} (h : IsB b x) {k : Nat} (hx : x < 10000 ^ k) : b.D.length ≤ k := canon_len h.can (by rw [h.val]; exact hx)
theorem pow_le_pow {a b : Nat} (h : a ≤ b) : (10000 : Int) ^ a ≤ 10000 ^ b := by
  obtain ⟨j, rfl⟩ : ∃ j, b = a + j := ⟨b - a, by omega⟩
  rw [Int.pow_add]
  have := Int.mul_le_mul_of_nonneg_left (show (1 : Int) ≤ 10000 ^ j by have := pow_pos' j; omega) (show (0 : Int) ≤ 10000 ^ a by have := pow_pos' a; omega)
  omega
theorem Of_l1 : ∀ (k : Nat) (n : Int) (L : List Int), 0 ≤ n → n ≤ 9223372036854775807 → n < 10000 ^ k → L.length + k ≤ 1000 → Digs L → ∃ L', iter m_cocketref01_Of_l1 (n, L) = some L' ∧ Digs L' ∧ L'.length ≤ 1000 ∧ val L' = val L + 10000 ^ L.length * n
  | 0, n, L, h0, h1, h2, h3, hD => by
    have : n = 0 := by simp at h2; omega
    subst this
    exact ⟨L, iter_done (by rw [m_cocketref01_Of_l1]; rfl), hD, by omega, by simp⟩
  | k + 1, n, L, h0, h1, h2, h3, hD => by
    by_cases hn : n = 0
    · subst hn
      exact ⟨L, iter_done (by rw [m_cocketref01_Of_l1]; rfl), hD, by omega, by simp⟩
    have hm := Int.emod_add_mul_ediv n 10000
    have hm1 := Int.emod_nonneg n (show (10000 : Int) ≠ 0 by decide)
    have hm2 := Int.emod_lt_of_pos n (show (0 : Int) < 10000 by decide)
    rw [Int.pow_succ] at h2
    obtain ⟨L', g1, g2, g3, g4⟩ := Of_l1 k (n / 10000) (L ++ [n % 10000]) (by omega) (by omega) (by omega) (by simp; omega) (hD.app (digs1 ⟨hm1, by omega⟩))
    refine ⟨L', iter_step (s' := (n / 10000, L ++ [n % 10000])) ?_ g1, g2, g3, ?_⟩
    · rw [m_cocketref01_Of_l1, tmod_eq h0, tdiv_eq h0, wrap_i64_eq (x := n / 10000) (by omega), decide_eq_true hn, decide_eq_false (show ¬ n % 10000 < 0 by omega)]
      simp only [cond_true, cond_false, Option.bind_some]
      rw [guardO_pos (by simp; omega)]
    · rw [g4, val_app, List.length_append, List.length_singleton, Int.pow_succ]
      simp only [val, Int.mul_zero, Int.add_zero]
      have := congrArg ((10000 : Int) ^ L.length * ·) hm
      simp only [Int.mul_add] at this
      rw [← Int.mul_assoc] at this
      omega
theorem Of_eq {n : Int} (h : 0 ≤ n ∧ n ≤ 9223372036854775807) : ∃ b, m_cocketref01_Of n = some b ∧ IsB b n := by
  obtain ⟨L, h1, h2, h3, h4⟩ := Of_l1 5 n [] h.1 h.2 (by have : (10000 : Int) ^ 5 = 100000000000000000000 := by decide
                                                         omega) (by simp) Digs.nil
  obtain ⟨b, g1, g2⟩ := whole_eq (d := L) (by omega) h2
  refine ⟨b, ?_, ?_⟩
  · rw [m_cocketref01_Of, h1]
    simp only [Option.bind_some]
    rw [decide_eq_false (show ¬ n < 0 by omega), g1]; rfl
  · have : val L = n := by rw [h4]; simp [val]
    rw [← this]; exact g2
theorem Times_eq {a b : Big} {x y : Int} (ha : IsB a x) (hb : IsB b y) (hx : x < 10000 ^ 40) (hy : y < 10000 ^ 40) : ∃ r, m_cocketref01_Times a b = some r ∧ IsB r (x * y) := by
  obtain ⟨r, h1, h2, h3⟩ := mulD_eq (a := a.D) (b := b.D) ha.can.1 hb.can.1 (by have := ha.len hx; have := hb.len hy; omega)
  have hl : r.length ≤ 80 := canon_len h2 (by
    rw [h3, ha.val, hb.val, show 80 = 40 + 40 from rfl, Int.pow_add]
    exact Int.mul_lt_mul' (by omega) hy hb.nonneg (pow_pos' _))
  obtain ⟨w, g1, g2⟩ := whole_eq (d := r) (by omega) h2.1
  refine ⟨w, ?_, ?_⟩
  · rw [m_cocketref01_Times, h1, ha.pos, hb.pos]
    simp only [Option.bind_some, beq_self_eq_true, Bool.not_true, g1]
  · rw [h3, ha.val, hb.val] at g2; exact g2
theorem Over_eq {a b : Big} {x y : Int} (ha : IsB a x) (hb : IsB b y) (hx : x < 10000 ^ 100) (hy : y < 10000 ^ 100) (h0 : 0 < y) : ∃ r, m_cocketref01_Over a b = some r ∧ IsB r.1 (x / y) ∧ IsB r.2 (x % y) := by
  obtain ⟨q, r, h1, h2, h3, h4, h5⟩ := divD_eq (a := a.D) (b := b.D) ha.can (by have := ha.len hx; omega) hb.can (by have := hb.len hy; omega) (by rw [hb.val]; exact h0)
  have hx0 := ha.nonneg
  rw [ha.val, hb.val] at h4 h5
  have hql : q.length ≤ 100 := canon_len h2 (by rw [h4]; have := Int.ediv_le_self y hx0; omega)
  have hrl : r.length ≤ 100 := canon_len h3 (by rw [h5]; have := Int.emod_lt_of_pos x h0; omega)
  obtain ⟨w, g1, g2⟩ := whole_eq (d := q) (by omega) h2.1
  obtain ⟨w', g1', g2'⟩ := whole_eq (d := r) (by omega) h3.1
  refine ⟨(w, w'), ?_, by rw [h4] at g2; exact g2, by rw [h5] at g2'; exact g2'⟩
  rw [m_cocketref01_Over, h1, ha.pos]
  simp only [Option.bind_some, Bool.not_false, cond_true, g1, g1']
structure IsQ (q : Q) (r : Ratio) : Prop where
  num : IsB q.N r.Num
  den : IsB q.D r.Den
theorem IsQ.uniq {p q : Q} {r : Ratio} (h : IsQ p r) (h' : IsQ q r) : p = q := by
  obtain ⟨n, d⟩ := p
  obtain ⟨n', d'⟩ := q
  have h1 := h.num.uniq h'.num
  have h2 := h.den.uniq h'.den
  simp only at h1 h2
  rw [h1, h2]
theorem lowest_eq {a b : Big} {x y : Int} (ha : IsB a x) (hb : IsB b y) (hx : x < 10000 ^ 100) (hy : y < 10000 ^ 100) (h0 : 0 < y) : ∃ q, m_cocketref01_lowest a b = some q ∧ IsQ q (ratioN x y) := by
  obtain ⟨g, h1, h2, h3⟩ := gcdD_eq (a := a.D) (b := b.D) ha.can (by have := ha.len hx; omega) hb.can (by have := hb.len hy; omega)
  rw [ha.val, hb.val] at h3
  have hg : 0 < Int.gcd x y := Int.gcd_pos_of_ne_zero_right _ (by omega)
  have hgy : (Int.gcd x y : Int) ≤ y := Int.le_of_dvd h0 (Int.gcd_dvd_right _ _)
  have hgl : g.length ≤ 100 := canon_len h2 (by rw [h3]; omega)
  obtain ⟨w, g1, g2⟩ := whole_eq (d := g) (by omega) h2.1
  rw [h3] at g2
  obtain ⟨r1, k1, k2, _⟩ := Over_eq ha g2 hx (by omega) (by omega)
  obtain ⟨r2, m1, m2, _⟩ := Over_eq hb g2 hy (by omega) (by omega)
  refine ⟨⟨r1.1, r2.1⟩, ?_, k2, m2⟩
  rw [m_cocketref01_lowest, hb.pos]
  simp only [cond_false, Option.bind_some, h1, g1, k1, m1]
theorem small_of {x : Int} (h : x ≤ 9223372036854775807) : x < 10000 ^ 40 := by
  have h1 : (10000 : Int) ^ 5 ≤ 10000 ^ 40 := pow_le_pow (by decide)
  have h2 : (10000 : Int) ^ 5 = 100000000000000000000 := by decide
  omega
theorem lt40_100 {x : Int} (h : x < 10000 ^ 40) : x < 10000 ^ 100 := by
  have h1 : (10000 : Int) ^ 40 ≤ 10000 ^ 100 := pow_le_pow (by decide)
  omega
theorem Frac_eq {n d : Int} (hn : 1 ≤ n ∧ n ≤ 9223372036854775807) (hd : 1 ≤ d ∧ d ≤ 9223372036854775807) : ∃ q, m_cocketref01_Frac n d = some q ∧ IsQ q (ratioN n d) := by
  obtain ⟨a, h1, h2⟩ := Of_eq (n := n) ⟨by omega, hn.2⟩
  obtain ⟨b, h3, h4⟩ := Of_eq (n := d) ⟨by omega, hd.2⟩
  obtain ⟨q, h5, h6⟩ := lowest_eq h2 h4 (lt40_100 (small_of hn.2)) (lt40_100 (small_of hd.2)) (by omega)
  refine ⟨q, ?_, h6⟩
  rw [m_cocketref01_Frac, h1, h3]
  simp only [Option.bind_some, h5]
def mulN (p q : Ratio) : Ratio := ratioN (p.Num * q.Num) (p.Den * q.Den)
structure RatOk (r : Ratio) (m : Int) : Prop where
  n1 : 1 ≤ r.Num
  n2 : r.Num ≤ m
  d1 : 1 ≤ r.Den
  d2 : r.Den ≤ m
  co : Int.gcd r.Num r.Den = 1
theorem RatOk.le {r : Ratio} {m m' : Int} (h : RatOk r m) (hm : m ≤ m') : RatOk r m' := ⟨h.n1, by have := h.n2; omega, h.d1, by have := h.d2; omega, h.co⟩
theorem ratioN_ok {a b m : Int} (ha : 1 ≤ a ∧ a ≤ m) (hb : 1 ≤ b ∧ b ≤ m) : RatOk (ratioN a b) m := by
  obtain ⟨h1, h2, h3, h4⟩ := ratioN_bounds ha hb
  refine ⟨h1, h2, h3, h4, ?_⟩
  have hg : 0 < Int.gcd a b := Int.gcd_pos_of_ne_zero_left _ (by omega)
  exact Int.gcd_ediv_gcd_ediv_gcd hg
theorem mulN_ok {p q : Ratio} {m k : Int} (hp : RatOk p m) (hq : RatOk q k) : RatOk (mulN p q) (m * k) := by
  have m1 := mul_bounds (x := p.Num) (y := q.Num) (a := m) (b := k) ⟨by have := hp.n1; omega, hp.n2⟩ ⟨by have := hq.n1; omega, hq.n2⟩
  have m2 := mul_bounds (x := p.Den) (y := q.Den) (a := m) (b := k) ⟨by have := hp.d1; omega, hp.d2⟩ ⟨by have := hq.d1; omega, hq.d2⟩
  exact ratioN_ok ⟨mul_pos1 hp.n1 hq.n1, m1.2⟩ ⟨mul_pos1 hp.d1 hq.d1, m2.2⟩
theorem Mul_eq {a b : Q} {p q : Ratio} {m : Int} (ha : IsQ a p) (hb : IsQ b q) (hp : RatOk p m) (hq : RatOk q m) (hm : m < 10000 ^ 40) : ∃ r, m_cocketref01_Mul a b = some r ∧ IsQ r (mulN p q) := by
  have p1 := hp.n1
  have p2 := hp.d1
  have q1 := hq.n1
  have q2 := hq.d1
  obtain ⟨u, h1, h2⟩ := Times_eq ha.num hb.num (by have := hp.n2; omega) (by have := hq.n2; omega)
  obtain ⟨v, h3, h4⟩ := Times_eq ha.den hb.den (by have := hp.d2; omega) (by have := hq.d2; omega)
  have hb2 : ∀ {x y : Int}, 1 ≤ x → x ≤ m → 1 ≤ y → y ≤ m → x * y < 10000 ^ 100 := fun {x y} a1 a2 a3 a4 => by
    have := Int.mul_lt_mul' (show x ≤ (10000 : Int) ^ 40 by omega) (show y < (10000 : Int) ^ 40 by omega) (by omega) (pow_pos' 40)
    rw [← Int.pow_add] at this
    have h80 : (10000 : Int) ^ (40 + 40) ≤ 10000 ^ 100 := pow_le_pow (by decide)
    omega
  obtain ⟨r, h5, h6⟩ := lowest_eq h2 h4 (hb2 p1 hp.n2 q1 hq.n2) (hb2 p2 hp.d2 q2 hq.d2) (by have := mul_pos1 p2 q2; omega)
  refine ⟨r, ?_, h6⟩
  rw [m_cocketref01_Mul, h1, h3]
  simp only [Option.bind_some, h5]
end Go.Pv

set_option linter.unusedSimpArgs false
set_option linter.unusedVariables false
namespace Go.Pv
def toRat (r : Ratio) : Rat := Rat.divInt r.Num r.Den
theorem cast_pos {b : Int} (hb : 1 ≤ b) : (0 : Rat) < (b : Rat) := by
  have := (Rat.intCast_lt_intCast (a := 0) (b := b)).2 (by omega)
  simpa using this
theorem divInt_lt_iff {a b c d : Int} (hb : 1 ≤ b) (hd : 1 ≤ d) : Rat.divInt a b < Rat.divInt c d ↔ a * d < c * b := by
  have pb := cast_pos hb
  have pd := cast_pos hd
  have hb0 : (b : Rat) ≠ 0 := fun h => by rw [h] at pb; exact absurd pb (by decide)
  have hd0 : (d : Rat) ≠ 0 := fun h => by rw [h] at pd; exact absurd pd (by decide)
  have hx : Rat.divInt a b * (b : Rat) = a := by rw [Rat.divInt_eq_div]; exact Rat.div_mul_cancel hb0
  have hy : Rat.divInt c d * (d : Rat) = c := by rw [Rat.divInt_eq_div]; exact Rat.div_mul_cancel hd0
  generalize Rat.divInt a b = x at *
  generalize Rat.divInt c d = y at *
  have pbd := Rat.mul_pos pb pd
  have e1 : ((a * d : Int) : Rat) = x * ((b : Rat) * (d : Rat)) := by rw [Rat.intCast_mul, ← hx, Rat.mul_assoc]
  have e2 : ((c * b : Int) : Rat) = y * ((b : Rat) * (d : Rat)) := by rw [Rat.intCast_mul, ← hy, Rat.mul_assoc, Rat.mul_comm (d : Rat)]
  rw [← Rat.intCast_lt_intCast, e1, e2]
  constructor
  · intro h
    exact Rat.mul_lt_mul_of_pos_right h pbd
  · intro h
    by_cases hc : y ≤ x
    · have := Rat.mul_le_mul_of_nonneg_right hc (Rat.le_of_lt pbd)
      exact absurd h (Rat.not_lt.2 this)
    · exact Rat.not_le.1 hc
theorem toRat_lt {p q : Ratio} (hp : 1 ≤ p.Den) (hq : 1 ≤ q.Den) : toRat p < toRat q ↔ p.Num * q.Den < q.Num * p.Den := divInt_lt_iff hp hq
theorem toRat_pos {p : Ratio} (hn : 1 ≤ p.Num) (hd : 1 ≤ p.Den) : 0 < toRat p := by
  have h := (divInt_lt_iff (a := 0) (b := 1) (c := p.Num) (d := p.Den) (by decide) hd).2 (by omega)
  have e : Rat.divInt 0 1 = 0 := by decide
  rw [e] at h
  exact h
theorem toRat_ratioN {a b : Int} (ha : 1 ≤ a) (hb : 1 ≤ b) : toRat (ratioN a b) = Rat.divInt a b := by
  have hg : 0 < Int.gcd a b := Int.gcd_pos_of_ne_zero_left _ (by omega)
  have h1 : a / (Int.gcd a b : Int) * (Int.gcd a b : Int) = a := Int.ediv_mul_cancel (Int.gcd_dvd_left _ _)
  have h2 : b / (Int.gcd a b : Int) * (Int.gcd a b : Int) = b := Int.ediv_mul_cancel (Int.gcd_dvd_right _ _)
  have := Rat.divInt_mul_right (n := a / (Int.gcd a b : Int)) (d := b / (Int.gcd a b : Int)) (a := (Int.gcd a b : Int)) (by omega)
  rw [h1, h2] at this
  exact this.symm
theorem toRat_mulN {p q : Ratio} (hp : 1 ≤ p.Num) (hp' : 1 ≤ p.Den) (hq : 1 ≤ q.Num) (hq' : 1 ≤ q.Den) : toRat (mulN p q) = toRat p * toRat q := by
  rw [mulN, toRat_ratioN (mul_pos1 hp hq) (mul_pos1 hp' hq'), toRat, toRat, Rat.divInt_mul_divInt]
theorem toRat_inj {p q : Ratio} (hp : 1 ≤ p.Num) (hp' : 1 ≤ p.Den) (hpc : Int.gcd p.Num p.Den = 1) (hq : 1 ≤ q.Num) (hq' : 1 ≤ q.Den) (hqc : Int.gcd q.Num q.Den = 1) (h : toRat p = toRat q) : p = q := by
  have hx : p.Num * q.Den = q.Num * p.Den := (Rat.divInt_eq_divInt_iff (by omega) (by omega)).1 h
  have hx1 := congrArg Int.natAbs hx
  rw [Int.natAbs_mul, Int.natAbs_mul] at hx1
  have c1 : Nat.Coprime p.Den.natAbs p.Num.natAbs := Nat.Coprime.symm hpc
  have c2 : Nat.Coprime q.Den.natAbs q.Num.natAbs := Nat.Coprime.symm hqc
  have d1 : p.Den ∣ q.Den := Int.natAbs_dvd_natAbs.1 (c1.dvd_of_dvd_mul_left (n := q.Den.natAbs) ⟨q.Num.natAbs, by rw [hx1, Nat.mul_comm]⟩)
  have d2 : q.Den ∣ p.Den := Int.natAbs_dvd_natAbs.1 (c2.dvd_of_dvd_mul_left (n := p.Den.natAbs) ⟨p.Num.natAbs, by rw [← hx1, Nat.mul_comm]⟩)
  have e : p.Den = q.Den := Int.dvd_antisymm (by omega) (by omega) d1 d2
  rw [e] at hx
  have e2 : p.Num = q.Num := Int.eq_of_mul_eq_mul_right (by omega) hx
  obtain ⟨n, d⟩ := p
  obtain ⟨n', d'⟩ := q
  simp only at e e2
  rw [e, e2]
theorem RatOk.inj {p q : Ratio} {m k : Int} (hp : RatOk p m) (hq : RatOk q k) (h : toRat p = toRat q) : p = q := toRat_inj hp.n1 hp.d1 hp.co hq.n1 hq.d1 hq.co h
theorem timesN_eq {p q : Ratio} {m k : Int} (hp : RatOk p m) (hq : RatOk q k) : timesN p q = mulN p q := by
  have p1 := hp.n1
  have p2 := hp.d1
  have q1 := hq.n1
  have q2 := hq.d1
  have hg1 : 0 < Int.gcd p.Num q.Den := Int.gcd_pos_of_ne_zero_left _ (by omega)
  have hg2 : 0 < Int.gcd q.Num p.Den := Int.gcd_pos_of_ne_zero_left _ (by omega)
  have ht := timesN_bounds (p := p) (q := q) (a := max p.Num p.Den) (b := max q.Num q.Den) ⟨p1, by omega⟩ ⟨p2, by omega⟩ ⟨q1, by omega⟩ ⟨q2, by omega⟩
  have hm := mulN_ok hp hq
  have a1 : p.Num / (Int.gcd p.Num q.Den : Int) * (Int.gcd p.Num q.Den : Int) = p.Num := Int.ediv_mul_cancel (Int.gcd_dvd_left _ _)
  have a2 : q.Den / (Int.gcd p.Num q.Den : Int) * (Int.gcd p.Num q.Den : Int) = q.Den := Int.ediv_mul_cancel (Int.gcd_dvd_right _ _)
  have a3 : q.Num / (Int.gcd q.Num p.Den : Int) * (Int.gcd q.Num p.Den : Int) = q.Num := Int.ediv_mul_cancel (Int.gcd_dvd_left _ _)
  have a4 : p.Den / (Int.gcd q.Num p.Den : Int) * (Int.gcd q.Num p.Den : Int) = p.Den := Int.ediv_mul_cancel (Int.gcd_dvd_right _ _)
  have c1 : Int.gcd (p.Num / (Int.gcd p.Num q.Den : Int)) (q.Den / (Int.gcd p.Num q.Den : Int)) = 1 := Int.gcd_ediv_gcd_ediv_gcd hg1
  have c2 : Int.gcd (q.Num / (Int.gcd q.Num p.Den : Int)) (p.Den / (Int.gcd q.Num p.Den : Int)) = 1 := Int.gcd_ediv_gcd_ediv_gcd hg2
  have hpc := hp.co
  have hqc := hq.co
  have hval : toRat (timesN p q) = toRat p * toRat q := by
    rw [toRat, toRat, toRat, Rat.divInt_mul_divInt]
    simp only [timesN]
    have hk : ((Int.gcd p.Num q.Den : Int) * (Int.gcd q.Num p.Den : Int)) ≠ 0 := by
      have := Int.mul_pos (show (0 : Int) < (Int.gcd p.Num q.Den : Int) by omega) (show (0 : Int) < (Int.gcd q.Num p.Den : Int) by omega)
      omega
    have := Rat.divInt_mul_right (n := p.Num / (Int.gcd p.Num q.Den : Int) * (q.Num / (Int.gcd q.Num p.Den : Int))) (d := p.Den / (Int.gcd q.Num p.Den : Int) * (q.Den / (Int.gcd p.Num q.Den : Int))) hk
    rw [← this]
    have n1 : p.Num / (Int.gcd p.Num q.Den : Int) * (q.Num / (Int.gcd q.Num p.Den : Int)) * ((Int.gcd p.Num q.Den : Int) * (Int.gcd q.Num p.Den : Int)) = p.Num * q.Num := by
      refine Eq.trans (b := (p.Num / (Int.gcd p.Num q.Den : Int) * (Int.gcd p.Num q.Den : Int)) * (q.Num / (Int.gcd q.Num p.Den : Int) * (Int.gcd q.Num p.Den : Int))) ?_ (by rw [a1, a3])
      simp only [Int.mul_assoc, Int.mul_comm, Int.mul_left_comm]
    have n2 : p.Den / (Int.gcd q.Num p.Den : Int) * (q.Den / (Int.gcd p.Num q.Den : Int)) * ((Int.gcd p.Num q.Den : Int) * (Int.gcd q.Num p.Den : Int)) = p.Den * q.Den := by
      refine Eq.trans (b := (p.Den / (Int.gcd q.Num p.Den : Int) * (Int.gcd q.Num p.Den : Int)) * (q.Den / (Int.gcd p.Num q.Den : Int) * (Int.gcd p.Num q.Den : Int))) ?_ (by rw [a4, a2])
      simp only [Int.mul_assoc, Int.mul_comm, Int.mul_left_comm]
    rw [n1, n2]
  have hco : Int.gcd (timesN p q).Num (timesN p q).Den = 1 := by
    simp only [timesN]
    show Nat.Coprime (Int.natAbs _) (Int.natAbs _)
    rw [Int.natAbs_mul, Int.natAbs_mul]
    have v1 : (p.Num / (Int.gcd p.Num q.Den : Int)).natAbs ∣ p.Num.natAbs := Int.natAbs_dvd_natAbs.2 ⟨_, a1.symm⟩
    have v2 : (q.Den / (Int.gcd p.Num q.Den : Int)).natAbs ∣ q.Den.natAbs := Int.natAbs_dvd_natAbs.2 ⟨_, a2.symm⟩
    have v3 : (q.Num / (Int.gcd q.Num p.Den : Int)).natAbs ∣ q.Num.natAbs := Int.natAbs_dvd_natAbs.2 ⟨_, a3.symm⟩
    have v4 : (p.Den / (Int.gcd q.Num p.Den : Int)).natAbs ∣ p.Den.natAbs := Int.natAbs_dvd_natAbs.2 ⟨_, a4.symm⟩
    have w1 : Nat.Coprime p.Num.natAbs p.Den.natAbs := hpc
    have w2 : Nat.Coprime q.Num.natAbs q.Den.natAbs := hqc
    exact Nat.Coprime.mul_left (Nat.Coprime.mul_right ((w1.coprime_dvd_left v1).coprime_dvd_right v4) c1) (Nat.Coprime.mul_right c2 ((w2.coprime_dvd_left v3).coprime_dvd_right v2))
  have hm1 := hm.n1
  have hm2 := hm.d1
  exact toRat_inj ht.1 ht.2.2.1 hco hm.n1 hm.d1 hm.co (by rw [hval, toRat_mulN p1 p2 q1 q2])
end Go.Pv

set_option linter.unusedSimpArgs false
set_option linter.unusedVariables false
namespace Go.Pv
def aboveS (a b : Ratio) : Bool := decide (b.Num * a.Den < a.Num * b.Den)
theorem above_eq {a b : Ratio} {x y : Int} (h1 : 0 ≤ a.Num ∧ a.Num ≤ x) (h2 : 0 ≤ a.Den ∧ a.Den ≤ x) (h3 : 0 ≤ b.Num ∧ b.Num ≤ y) (h4 : 0 ≤ b.Den ∧ b.Den ≤ y) (h : x * y ≤ 9223372036854775807) : m_rate_above a b = some (aboveS a b) := by
  have m1 := mul_bounds h1 h4
  have m2 := mul_bounds h2 h3
  rw [Int.mul_comm a.Den b.Num] at m2
  rw [m_rate_above, wrap_i64_eq (by omega), wrap_i64_eq (by omega)]
  rfl
structure MarketOk (m : Market) : Prop where
  n1 : 2 ≤ m.n
  n2 : m.n ≤ 6
  len : m.offers.length ≤ 40
  good : ∀ o ∈ m.offers, offerOk m.n o = true
theorem MarketOk.of {n : Int} {l : List Offer} (h : ofCode n l = 0) : MarketOk ⟨n, l⟩ :=
  ⟨(ofCode_zero h).1, (ofCode_zero h).2.1, (ofCode_zero h).2.2.1, (ofCode_zero h).2.2.2⟩
theorem MarketOk.offer {m : Market} (h : MarketOk m) : ∀ o ∈ m.offers, goodOffer m.n o = true := fun o ho => by
  have := h.good o ho
  simp only [offerOk, Bool.and_eq_true] at this
  exact this.1
theorem MarketOk.pre {m : Market} (h : MarketOk m) {frm length : Int} (h1 : 0 ≤ frm ∧ frm < m.n) (h2 : 0 ≤ length ∧ length ≤ m.n) (r : Bool) : walksPre m frm length r = true := by
  have := h.n2
  have h3 := h.len
  simp only [walksPre, Bool.and_eq_true, decide_eq_true_eq, List.all_eq_true]
  exact ⟨⟨h.n2, by omega, h1.1, h1.2, h2.1, by omega⟩, h.offer⟩
theorem MarketOk.facts {m : Market} (h : MarketOk m) (frm length : Int) (r : Bool) (h2 : 0 ≤ length ∧ length ≤ m.n) : ∀ x ∈ walksL m frm length r, (x.list.length : Int) = length ∧ (1 ≤ x.rate.Num ∧ x.rate.Num ≤ 15625000000) ∧ (1 ≤ x.rate.Den ∧ x.rate.Den ≤ 15625000000) := by
  intro x hx
  obtain ⟨a1, a2, a3⟩ := walksL_facts m h.offer frm length r x hx
  have := h.n2
  have hp := pow50_le (a := x.list.length) (b := 6) (by omega)
  have e : (50 : Int) ^ 6 = 15625000000 := by decide
  refine ⟨a1, ⟨a2.1, by omega⟩, a3.1, by omega⟩
theorem MarketOk.facts5 {m : Market} (h : MarketOk m) (frm length : Int) (r : Bool) (h2 : 0 ≤ length ∧ length < m.n) : ∀ x ∈ walksL m frm length r, (x.list.length : Int) = length ∧ (1 ≤ x.rate.Num ∧ x.rate.Num ≤ 312500000) ∧ (1 ≤ x.rate.Den ∧ x.rate.Den ≤ 312500000) := by
  intro x hx
  obtain ⟨a1, a2, a3⟩ := walksL_facts m h.offer frm length r x hx
  have := h.n2
  have hp := pow50_le (a := x.list.length) (b := 5) (by omega)
  have e : (50 : Int) ^ 5 = 312500000 := by decide
  refine ⟨a1, ⟨a2.1, by omega⟩, a3.1, by omega⟩
def gainsW (x : Walk) : Bool := aboveS x.rate ⟨1, 1⟩
def lesser (a c : List Int) : List Int := if c.isEmpty || decide (cmpL a c < 0) then a else c
def roundV (c : List Int) : List Walk → List Int
  | [] => c
  | x :: W => if gainsW x then lesser x.list c else roundV c W
theorem roundV_len {c : List Int} (hc : c.length ≤ 1000) : ∀ {W : List Walk}, (∀ x ∈ W, x.list.length ≤ 1000) → (roundV c W).length ≤ 1000
  | [], _ => hc
  | x :: W, h => by
    unfold roundV
    split
    · unfold lesser; split
      · exact h x (by simp)
      · exact hc
    · exact roundV_len hc fun y hy => h y (List.mem_cons_of_mem _ hy)
theorem rangeM_round (c : List Int) (hc : c.length ≤ 1000) : ∀ (W : List Walk), (∀ x ∈ W, x.list.length ≤ 1000 ∧ (1 ≤ x.rate.Num ∧ x.rate.Num ≤ 15625000000) ∧ (1 ≤ x.rate.Den ∧ x.rate.Den ≤ 15625000000)) →
    ((rangeM m_rate_market_round_r3 c W).bind fun o => match o with | .inl c4 => some c4 | .inr c41 => some c41) = some (roundV c W)
  | [], _ => rfl
  | x :: W, h => by
    obtain ⟨h1, h2, h3⟩ := h x (by simp)
    have ha : m_rate_above x.rate ⟨1, 1⟩ = some (gainsW x) := above_eq (x := 15625000000) (y := 1) ⟨by omega, by omega⟩ ⟨by omega, by omega⟩ (by simp) (by simp) (by omega)
    have ih := rangeM_round c hc W fun y hy => h y (List.mem_cons_of_mem _ hy)
    unfold roundV
    rw [rangeM, m_rate_market_round_r3, ha]
    simp only [Option.bind_some]
    rcases Bool.eq_false_or_eq_true (gainsW x) with hg | hg
    · rw [hg, Compare_eq _ _ (by omega) (by omega)]
      simp only [cond_true, if_true, Option.bind_some, lesser]
      rcases Bool.eq_false_or_eq_true c.isEmpty with he | he
      · simp [he]
      · by_cases hl : cmpL x.list c < 0
        · simp [he, hl]
        · simp [he, hl]
    · rw [hg]
      simp only [cond_false, Option.bind_some, Bool.false_eq_true, if_false]
      exact ih
def roundLen (m : Market) (length : Int) : List Int := foldUp (fun v c => roundV c (walksL m v length true)) m.n.toNat 0 []
theorem round_l2 {m : Market} (h : MarketOk m) {length : Int} (hl : 0 ≤ length ∧ length ≤ m.n) : iter (m_rate_market_round_l2 m length) (0, []) = some (roundLen m length) ∧ (roundLen m length).length ≤ 1000 := by
  have hn2 := h.n2
  have key := iter_fold (f := m_rate_market_round_l2 m length) (n := m.n) (e := id) (i := 0) (s := [])
    (g := fun v c => guardO (walksPre m v length true = true) <| (rangeM (m_rate_market_round_r3) c (walksL m v length true)).bind fun o => match o with | .inl c4 => some c4 | .inr c41 => some c41)
    (h := fun v c => roundV c (walksL m v length true)) (fun _ c => c.length ≤ 1000) (by omega) (fun i s => by rw [m_rate_market_round_l2]; rfl) (by omega) ?_ (by simp)
  · have e : m.n - 0 = m.n := by omega
    rw [e] at key
    exact key
  · intro j s h1 h2 h3
    have hf := h.facts j length true hl
    have hle : ∀ x ∈ walksL m j length true, x.list.length ≤ 1000 := fun x hx => by
      have := (hf x hx).1
      omega
    rw [guardO_pos (h.pre ⟨h1, h2⟩ hl true), rangeM_round s h3 _ fun x hx => ⟨hle x hx, (hf x hx).2⟩]
    exact ⟨rfl, roundV_len h3 hle⟩
def roundFrom (m : Market) : Nat → Int → List Int
  | 0, _ => []
  | k + 1, length => if (roundLen m length).isEmpty then roundFrom m k (length + 1) else roundLen m length
def roundS (m : Market) : List Int := roundFrom m (m.n - 1).toNat 2
theorem round_l1 {m : Market} (h : MarketOk m) : ∀ (k : Nat) (length : Int), k = (m.n + 1 - length).toNat → 0 ≤ length →
    ((iter (m_rate_market_round_l1 m) length).bind fun o => match o with | .inl _ => some [] | .inr y => some y) = some (roundFrom m k length)
  | 0, length, hk, h0 => by
    have d : decide (length ≤ m.n) = false := by simp; omega
    rw [iter_eq, m_rate_market_round_l1, d]; rfl
  | k + 1, length, hk, h0 => by
    have hn2 := h.n2
    have d : decide (length ≤ m.n) = true := by simp; omega
    have ih := round_l1 h k (length + 1) (by omega) (by omega)
    rw [iter_eq, m_rate_market_round_l1, d, (round_l2 h ⟨h0, by omega⟩).1, roundFrom]
    simp only [cond_true, Option.bind_some]
    rcases Bool.eq_false_or_eq_true (roundLen m length).isEmpty with he | he
    · simp only [he, Bool.not_true, cond_false, Option.bind_some, if_true]
      rw [wrap_i64_eq (by omega)]
      exact ih
    · simp only [he, Bool.not_false, cond_true, Option.bind_some, Bool.false_eq_true, if_false]
theorem round_eq {m : Market} (h : MarketOk m) : m_rate_market_round m = some (roundS m) := by
  have hn2 := h.n2
  have := round_l1 h _ 2 rfl (by omega)
  rw [m_rate_market_round]
  have e : (m.n + 1 - 2).toNat = (m.n - 1).toNat := by omega
  rw [e] at this
  obtain ⟨x, h1, h2⟩ := bind_some this
  rw [h1]
  rcases x with x | x <;> exact h2
def bestStep (to : Int) (s : Walk × Bool) (x : Walk) : Walk × Bool := if (decide (x.to = to) && (!s.2 || aboveS x.rate s.1.rate)) = true then (x, true) else s
def bestS (m : Market) (frm to : Int) : Walk × Bool :=
  if frm = to then (⟨[], ⟨1, 1⟩, 0⟩, true) else foldUp (fun length s => (walksL m frm length false).foldl (bestStep to) s) (m.n - 1).toNat 1 (⟨[], ⟨0, 0⟩, 0⟩, false)
def RateOk (r : Ratio) : Prop := (0 ≤ r.Num ∧ r.Num ≤ 312500000) ∧ 0 ≤ r.Den ∧ r.Den ≤ 312500000
theorem RateOk.mk1 {a b : Int} (h : (0 ≤ a ∧ a ≤ 312500000) ∧ 0 ≤ b ∧ b ≤ 312500000) : RateOk ⟨a, b⟩ := h
theorem above_ok {a b : Ratio} (h1 : RateOk a) (h2 : RateOk b) : m_rate_above a b = some (aboveS a b) :=
  above_eq (x := 312500000) (y := 312500000) h1.1 h1.2 h2.1 h2.2 (by omega)
theorem rangeM_best (to : Int) : ∀ (W : List Walk) (s : Walk × Bool), RateOk s.1.rate → (∀ x ∈ W, RateOk x.rate) →
    rangeM (m_rate_market_best_r2 to) s W = some (.inl (W.foldl (bestStep to) s)) ∧ RateOk (W.foldl (bestStep to) s).1.rate
  | [], s, hs, _ => ⟨rfl, hs⟩
  | x :: W, s, hs, h => by
    have hx := h x (by simp)
    have e : m_rate_market_best_r2 to s x = some (.inl (bestStep to s x)) := by
      obtain ⟨s1, s2⟩ := s
      rw [m_rate_market_best_r2, above_ok hx hs]
      simp only [bestStep, Option.bind_some]
      rcases Bool.eq_false_or_eq_true (decide (x.to = to)) with c1 | c1
      · rcases Bool.eq_false_or_eq_true s2 with c2 | c2
        · rcases Bool.eq_false_or_eq_true (aboveS x.rate s1.rate) with c3 | c3
          · simp [c1, c2, c3]
          · simp [c1, c2, c3]
        · simp [c1, c2]
      · simp [c1]
    have hr : RateOk (bestStep to s x).1.rate := by
      unfold bestStep; split
      · exact hx
      · exact hs
    rw [rangeM, e]
    exact rangeM_best to W _ hr fun y hy => h y (List.mem_cons_of_mem _ hy)
theorem best_eq {m : Market} (h : MarketOk m) {frm : Int} (hf : 0 ≤ frm ∧ frm < m.n) (to : Int) : m_rate_market_best m frm to = some (bestS m frm to) ∧ RateOk (bestS m frm to).1.rate := by
  have hn2 := h.n2
  rw [m_rate_market_best, bestS]
  by_cases he : frm = to
  · have d : decide (frm = to) = true := by simpa using he
    rw [d, if_pos he]
    exact ⟨rfl, RateOk.mk1 (by decide)⟩
  have d : decide (frm = to) = false := by simpa using he
  rw [d, if_neg he]
  have key := iter_fold (f := fun x : Int × (Walk × Bool) => m_rate_market_best_l1 m frm to x) (n := m.n) (e := id) (i := 1) (s := (⟨[], ⟨0, 0⟩, 0⟩, false))
    (g := fun length s => (guardO (walksPre m frm length false = true) <| (rangeM (m_rate_market_best_r2 to) s (walksL m frm length false)).bind fun o => match o with | .inl (c7, c8) => some (c7, c8) | .inr (c71, c81) => none))
    (h := fun length s => (walksL m frm length false).foldl (bestStep to) s) (fun _ s => RateOk s.1.rate) (by omega) ?_ (by omega) ?_ (RateOk.mk1 (by decide))
  · simp only [cond_false, key.1, Option.bind_some]
    exact ⟨rfl, key.2⟩
  · rintro i ⟨s1, s2⟩
    rw [m_rate_market_best_l1]
    rfl
  · intro j s h1 h2 h3
    have hfa := h.facts5 frm j false ⟨by omega, h2⟩
    obtain ⟨b1, b2⟩ := rangeM_best to (walksL m frm j false) s h3 fun x hx => by
      have := hfa x hx
      exact ⟨⟨by omega, by omega⟩, by omega, by omega⟩
    rw [guardO_pos (h.pre hf ⟨by omega, by omega⟩ false), b1]
    exact ⟨rfl, b2⟩
def priceStep (m : Market) (v v2 : Int) (c : Ratio) : Ratio := if ((bestS m v v2).2 && aboveS (bestS m v v2).1.rate c) = true then (bestS m v v2).1.rate else c
def priceS (m : Market) (v : Int) : Ratio := foldUp (priceStep m v) m.n.toNat 0 ⟨1, 1⟩
def pricesS (m : Market) : List Ratio := foldUp (fun v L => L ++ [priceS m v]) m.n.toNat 0 []
theorem Prices_l2 {n : Int} {l : List Offer} {c : Int} (h : MarketOk ⟨n, l⟩) {v : Int} (hv : 0 ≤ v ∧ v < n) : iter (m_rate_Prices_l2 n (⟨n, l⟩, c) v) (0, ⟨1, 1⟩) = some (priceS ⟨n, l⟩ v) := by
  have hn2 := h.n2
  dsimp only at hn2
  have key := iter_fold (f := m_rate_Prices_l2 n (⟨n, l⟩, c) v) (n := n) (e := id) (i := 0) (s := (⟨1, 1⟩ : Ratio))
    (g := fun v2 c2 => ((m_rate_market_best ⟨n, l⟩ v v2).bind fun r3 => ((cond r3.2 ((m_rate_above r3.1.rate c2).bind fun r4 => some r4) (some false)) : Option Bool).bind fun b1 => cond b1 (some r3.1.rate) (some c2)))
    (h := priceStep ⟨n, l⟩ v) (fun _ s => RateOk s) (by omega) (fun i s => by rw [m_rate_Prices_l2]; rfl) (by omega) ?_ (RateOk.mk1 (by decide))
  · have e : n - 0 = n := by omega
    rw [e] at key
    exact key.1
  · intro j s h1 h2 h3
    obtain ⟨b1, b2⟩ := best_eq h (frm := v) hv j
    rw [b1]
    simp only [Option.bind_some, above_ok b2 h3, priceStep]
    rcases Bool.eq_false_or_eq_true (bestS ⟨n, l⟩ v j).2 with c1 | c1
    · rcases Bool.eq_false_or_eq_true (aboveS (bestS ⟨n, l⟩ v j).1.rate s) with c2 | c2
      · simp [c1, c2, b2]
      · simp [c1, c2, h3]
    · simp [c1, h3]
theorem Prices_l1 {n : Int} {l : List Offer} {c : Int} (h : MarketOk ⟨n, l⟩) : iter (m_rate_Prices_l1 n (⟨n, l⟩, c)) (0, []) = some (pricesS ⟨n, l⟩) := by
  have hn2 := h.n2
  dsimp only at hn2
  have key := iter_fold (f := m_rate_Prices_l1 n (⟨n, l⟩, c)) (n := n) (e := id) (i := 0) (s := ([] : List Ratio))
    (g := fun v1 L2 => ((iter (m_rate_Prices_l2 n (⟨n, l⟩, c) v1) (0, (⟨1, 1⟩ : Ratio))).bind fun x_37 => some x_37 : Option Ratio).bind fun c1 => guardO (L2.length + [c1].length ≤ 4294967296) <| some (L2 ++ [c1]))
    (h := fun v L => L ++ [priceS ⟨n, l⟩ v]) (fun j L => (L.length : Int) = j) (by omega) (fun i s => by rw [m_rate_Prices_l1]; rfl) (by omega) ?_ (by simp)
  · have e : n - 0 = n := by omega
    rw [e] at key
    exact key.1
  · intro j s h1 h2 h3
    rw [Prices_l2 h ⟨h1, h2⟩]
    simp only [Option.bind_some]
    rw [guardO_pos (by simp; omega)]
    exact ⟨rfl, by simp; omega⟩
theorem Prices_eq (n : Int) (l : List Offer) : m_rate_Prices n l = some (if ofCode n l = 0 then (if (roundS ⟨n, l⟩).isEmpty then (pricesS ⟨n, l⟩, 0) else ([], 10)) else ([], ofCode n l)) := by
  rw [m_rate_Prices, of_eq]
  by_cases h0 : ofCode n l = 0
  · have hm := MarketOk.of h0
    rw [if_pos h0, if_pos h0]
    simp only [Option.bind_some, not_true_eq_false, decide_false, cond_false, round_eq hm, Prices_l1 hm]
    rcases Bool.eq_false_or_eq_true (roundS ⟨n, l⟩).isEmpty with he | he
    · simp [he]
    · simp [he]
  · have d : decide (¬ofCode n l = 0) = true := by simpa using h0
    rw [if_neg h0, if_neg h0]
    simp only [Option.bind_some, d, cond_true]
theorem Round_eq (n : Int) (l : List Offer) : m_rate_Round n l = some (if ofCode n l = 0 then (if (roundS ⟨n, l⟩).isEmpty then ([], 10) else (roundS ⟨n, l⟩, 0)) else ([], ofCode n l)) := by
  rw [m_rate_Round, of_eq]
  by_cases h0 : ofCode n l = 0
  · have hm := MarketOk.of h0
    rw [if_pos h0, if_pos h0]
    simp only [Option.bind_some, not_true_eq_false, decide_false, cond_false, round_eq hm]
    rcases Bool.eq_false_or_eq_true (roundS ⟨n, l⟩).isEmpty with he | he
    · simp [he]
    · simp [he]
  · have d : decide (¬ofCode n l = 0) = true := by simpa using h0
    rw [if_neg h0, if_neg h0]
    simp only [Option.bind_some, d, cond_true]
theorem Best_eq (n : Int) (l : List Offer) (frm to : Int) : m_rate_Best n l frm to = some (if ofCode n l = 0 then (if 0 ≤ frm ∧ frm < n ∧ 0 ≤ to ∧ to < n then (if (roundS ⟨n, l⟩).isEmpty then (if (bestS ⟨n, l⟩ frm to).2 then ((bestS ⟨n, l⟩ frm to).1.rate, (bestS ⟨n, l⟩ frm to).1.list, 0) else (⟨0, 0⟩, [], 10)) else (⟨0, 0⟩, [], 11)) else (⟨0, 0⟩, [], 2)) else (⟨0, 0⟩, [], ofCode n l)) := by
  rw [m_rate_Best, of_eq]
  by_cases h0 : ofCode n l = 0
  · have hm := MarketOk.of h0
    rw [if_pos h0, if_pos h0]
    simp only [Option.bind_some, not_true_eq_false, decide_false, cond_false, m_rate_market_has]
    by_cases hc : 0 ≤ frm ∧ frm < n ∧ 0 ≤ to ∧ to < n
    · have d1 : decide (0 ≤ frm) = true := by simp; omega
      have d2 : decide (frm < n) = true := by simp; omega
      have d3 : decide (0 ≤ to) = true := by simp; omega
      have d4 : decide (to < n) = true := by simp; omega
      rw [if_pos hc]
      simp only [d1, d2, d3, d4, Bool.and_true, Bool.not_true, cond_false, Option.bind_some, round_eq hm, (best_eq hm (frm := frm) ⟨hc.1, hc.2.1⟩ to).1]
      rcases Bool.eq_false_or_eq_true (roundS ⟨n, l⟩).isEmpty with he | he
      · simp only [he, Bool.not_true, cond_false, Option.bind_some, if_true]
        rcases Bool.eq_false_or_eq_true (bestS ⟨n, l⟩ frm to).2 with hb | hb
        · simp [hb]
        · simp [hb]
      · simp [he]
    · rw [if_neg hc]
      rcases Bool.eq_false_or_eq_true (decide (0 ≤ frm) && decide (frm < n)) with b1 | b1
      · have b2 : (decide (0 ≤ to) && decide (to < n)) = false := by
          simp only [Bool.and_eq_true, Bool.and_eq_false_iff, decide_eq_true_eq, decide_eq_false_iff_not] at *
          omega
        simp only [b1, b2, Bool.not_true, Bool.not_false, cond_true, cond_false, Option.bind_some]
      · simp only [b1, Bool.not_false, cond_true, Option.bind_some]
  · have d : decide (¬ofCode n l = 0) = true := by simpa using h0
    rw [if_neg h0, if_neg h0]
    simp only [Option.bind_some, d, cond_true]
theorem alive_true : m_cocketlaw01_alive = some true := by
  have e1 : m_rate_Prices 3 [⟨0, 1, 2, 1⟩, ⟨1, 2, 3, 2⟩, ⟨2, 0, 1, 3⟩] = some ([⟨3, 1⟩, ⟨3, 2⟩, ⟨1, 1⟩], 0) := by
    rw [Prices_eq]; decide +kernel
  have e2 : m_rate_Best 3 [⟨0, 1, 2, 1⟩, ⟨1, 2, 3, 2⟩, ⟨2, 0, 1, 3⟩] 0 2 = some (⟨3, 1⟩, [0, 1], 0) := by
    rw [Best_eq]; decide +kernel
  have e3 : m_rate_Round 3 [⟨0, 1, 2, 1⟩, ⟨1, 2, 3, 2⟩, ⟨2, 0, 1, 2⟩] = some ([0, 1, 2], 0) := by
    rw [Round_eq]; decide +kernel
  rw [m_cocketlaw01_alive, m_cocketlaw01_ring]
  simp only [Option.bind_some, e1, e2]
  have e4 : idx ([⟨0, 1, 2, 1⟩, ⟨1, 2, 3, 2⟩, ⟨2, 0, 1, 3⟩] : List Offer) 2 = some ⟨2, 0, 1, 3⟩ := rfl
  rw [e4]
  simp only [Option.bind_some, List.set]
  rw [e3]
  simp only [Option.bind_some]
  have e5 : idx ([⟨3, 1⟩, ⟨3, 2⟩, ⟨1, 1⟩] : List Ratio) 1 = some ⟨3, 2⟩ := rfl
  rw [e5, same_eq _ _ (by decide)]
  rfl
end Go.Pv

set_option linter.unusedSimpArgs false
set_option linter.unusedVariables false
namespace Go.Pv
def rateO (o : Offer) : Ratio := ratioN o.Num o.Den
theorem rateO_ok {n : Int} {o : Offer} (h : offerOk n o = true) : RatOk (rateO o) 50 := by
  simp only [offerOk, goodOffer, Bool.and_eq_true, decide_eq_true_eq] at h
  exact ratioN_ok ⟨by omega, by omega⟩ ⟨by omega, by omega⟩
def pick (c : Option Ratio) (q : Ratio) : Option Ratio :=
  match c with
  | none => some q
  | some r => if toRat r < toRat q then some q else some r
end Go.Pv

set_option linter.unusedSimpArgs false
set_option linter.unusedVariables false
namespace Go.Pv
def Path (l : List Offer) : Int → List Int → Int → Prop
  | v, [], u => v = u
  | v, i :: p, u => ∃ o, idx l i = some o ∧ o.From = v ∧ Path l o.To p u
def rtI (l : List Offer) (i : Int) : Rat := match idx l i with
  | some o => toRat (rateO o)
  | none => 1
def rtp (l : List Offer) : List Int → Rat
  | [] => 1
  | i :: p => rtI l i * rtp l p
theorem rtp_app (l : List Offer) : ∀ p q : List Int, rtp l (p ++ q) = rtp l p * rtp l q
  | [], q => by simp [rtp, Rat.one_mul]
  | i :: p, q => by simp only [List.cons_append, rtp, rtp_app l p q, Rat.mul_assoc]
theorem path_app {l : List Offer} : ∀ {p q : List Int} {v u : Int}, Path l v (p ++ q) u ↔ ∃ x, Path l v p x ∧ Path l x q u
  | [], q, v, u => ⟨fun h => ⟨v, rfl, h⟩, fun ⟨x, h1, h2⟩ => by cases h1; exact h2⟩
  | i :: p, q, v, u => by
    simp only [List.cons_append, Path]
    constructor
    · rintro ⟨o, h1, h2, h3⟩
      obtain ⟨x, h4, h5⟩ := path_app.1 h3
      exact ⟨x, ⟨o, h1, h2, h4⟩, h5⟩
    · rintro ⟨x, ⟨o, h1, h2, h4⟩, h5⟩
      exact ⟨o, h1, h2, path_app.2 ⟨x, h4, h5⟩⟩
theorem rtI_pos {n : Int} {l : List Offer} (ho : ∀ o ∈ l, offerOk n o = true) (i : Int) : 0 < rtI l i := by
  unfold rtI
  cases h : idx l i with
  | none => decide
  | some o =>
    obtain ⟨h0, h1, h2, _⟩ := idx_some h
    have := rateO_ok (ho o (List.mem_of_getElem? h2))
    exact toRat_pos this.n1 this.d1
theorem rtp_pos {n : Int} {l : List Offer} (ho : ∀ o ∈ l, offerOk n o = true) : ∀ p : List Int, 0 < rtp l p
  | [] => by show (0 : Rat) < 1; decide
  | i :: p => Rat.mul_pos (rtI_pos ho i) (rtp_pos ho p)
theorem idx_mem {l : List Offer} {o : Offer} {i : Int} (h : idx l i = some o) : o ∈ l := List.mem_of_getElem? (idx_some h).2.2.1
end Go.Pv

set_option linter.unusedSimpArgs false
set_option linter.unusedVariables false
namespace Go.Pv
theorem cmpL_anti : ∀ {a b : List Int}, cmpL a b ≤ 0 → cmpL b a ≤ 0 → a = b
  | [], [], _, _ => rfl
  | [], _ :: _, _, h => by simp [cmpL] at h
  | _ :: _, [], h, _ => by simp [cmpL] at h
  | x :: a, y :: b, h, h' => by
    simp only [cmpL] at h h'
    by_cases h1 : x < y
    · have : ¬ y < x := by omega
      simp [h1, this] at h'
    · by_cases h2 : y < x
      · simp [h1, h2] at h
      · simp only [h1, h2, if_false] at h h'
        have : x = y := by omega
        rw [this, cmpL_anti h h']
theorem toRat_one : toRat ⟨1, 1⟩ = 1 := by decide
def GainAt (l : List Offer) (k : Nat) (s : Int) (p : List Int) : Prop := Path l s p s ∧ p.length = k ∧ 1 < rtp l p
end Go.Pv

set_option linter.unusedSimpArgs false
set_option linter.unusedVariables false
namespace Go.Pv
theorem path_det {l : List Offer} : ∀ {p : List Int} {v u u' : Int}, Path l v p u → Path l v p u' → u = u'
  | [], v, u, u', h, h' => h.symm.trans h'
  | i :: p, v, u, u', ⟨o, h1, _, h3⟩, ⟨o', h1', _, h3'⟩ => by
    rw [h1] at h1'; cases h1'
    exact path_det h3 h3'
def Gain (l : List Offer) (k : Nat) (p : List Int) : Prop := ∃ s, GainAt l k s p
end Go.Pv

set_option linter.unusedSimpArgs false
set_option linter.unusedVariables false
namespace Go.Pv
end Go.Pv

set_option linter.unusedSimpArgs false
set_option linter.unusedVariables false
namespace Go.Pv
end Go.Pv

set_option linter.unusedSimpArgs false
set_option linter.unusedVariables false
namespace Go.Pv
theorem gainsW_iff {x : Walk} {m : Int} (h : RatOk x.rate m) : gainsW x = true ↔ 1 < toRat x.rate := by
  have := toRat_lt (p := ⟨1, 1⟩) (q := x.rate) (by decide) h.d1
  rw [toRat_one] at this
  rw [this]
  simp [gainsW, aboveS]
theorem ratOk_one : RatOk ⟨1, 1⟩ 1 := ⟨by decide, by decide, by decide, by decide, by decide⟩
end Go.Pv

set_option linter.unusedSimpArgs false
set_option linter.unusedVariables false
namespace Go.Pv
def tos (l : List Offer) : List Int → List Int
  | [] => []
  | i :: p => (match idx l i with | some o => o.To | none => 0) :: tos l p
theorem tos_len (l : List Offer) : ∀ p, (tos l p).length = p.length
  | [] => rfl
  | i :: p => by simp [tos, tos_len l p]
end Go.Pv

set_option linter.unusedSimpArgs false
set_option linter.unusedVariables false
namespace Go.Pv
end Go.Pv

set_option linter.unusedSimpArgs false
set_option linter.unusedVariables false
namespace Go.Pv
end Go.Pv

set_option linter.unusedSimpArgs false
set_option linter.unusedVariables false
namespace Go.Pv
end Go.Pv

set_option linter.unusedSimpArgs false
set_option linter.unusedVariables false
namespace Go.Pv
end Go.Pv

set_option linter.unusedSimpArgs false
set_option linter.unusedVariables false
namespace Go.Pv
end Go.Pv

set_option linter.unusedSimpArgs false
set_option linter.unusedVariables false
namespace Go.Pv
end Go.Pv

set_option linter.unusedSimpArgs false
set_option linter.unusedVariables false
namespace Go.Pv
end Go.Pv

set_option linter.unusedSimpArgs false
set_option linter.unusedVariables false
namespace Go.Pv
end Go.Pv

set_option linter.unusedSimpArgs false
set_option linter.unusedVariables false
namespace Go.Pv
def IsBest (l : List Offer) (v u : Int) (r : Ratio) (w : List Int) : Prop :=
  Path l v w u ∧ rtp l w = toRat r ∧ ∀ p, Path l v p u → rtp l p ≤ toRat r ∧ (toRat r ≤ rtp l p → w.length < p.length ∨ (w.length = p.length ∧ cmpL w p ≤ 0))
theorem IsBest.uniq {l : List Offer} {v u : Int} {r r' : Ratio} {w w' : List Int} {m k : Int} (h : IsBest l v u r w) (h' : IsBest l v u r' w') (hr : RatOk r m) (hr' : RatOk r' k) : r = r' ∧ w = w' := by
  have h1 := (h.2.2 w' h'.1).1
  have h2 := (h'.2.2 w h.1).1
  rw [h'.2.1] at h1
  rw [h.2.1] at h2
  have he := Rat.le_antisymm h2 h1
  have h3 := (h.2.2 w' h'.1).2 (by rw [h'.2.1, he]; exact Rat.le_refl)
  have h4 := (h'.2.2 w h.1).2 (by rw [h.2.1, he]; exact Rat.le_refl)
  refine ⟨hr.inj hr' he, ?_⟩
  exact cmpL_anti (by omega) (by omega)
end Go.Pv

set_option linter.unusedSimpArgs false
set_option linter.unusedVariables false
namespace Go.Pv
end Go.Pv

set_option linter.unusedSimpArgs false
set_option linter.unusedVariables false
namespace Go.Pv
end Go.Pv

set_option linter.unusedSimpArgs false
set_option linter.unusedVariables false
namespace Go.Pv
end Go.Pv

set_option linter.unusedSimpArgs false
set_option linter.unusedVariables false
namespace Go.Pv
theorem ratOk_one' {m : Int} (h : 1 ≤ m) : RatOk ⟨1, 1⟩ m := ratOk_one.le h
end Go.Pv

set_option linter.unusedSimpArgs false
set_option linter.unusedVariables false
namespace Go.Pv
structure Calm (n : Int) (l : List Offer) (a c : Int) : Prop where
  m : MarketOk ⟨n, l⟩
  g : ∀ (k : Nat) (p : List Int), ¬ Gain l k p
  ha : 0 ≤ a ∧ a < n
  hc : 0 ≤ c ∧ c < n
end Go.Pv

set_option linter.unusedSimpArgs false
set_option linter.unusedVariables false
namespace Go.Pv
open Go.Lib
theorem compact_sorted {s : List Int} (hs : s.Pairwise (· ≤ ·)) : (compactI s).Nodup ∧ ∀ x, x ∈ compactI s ↔ x ∈ s := by
  have hle : ∀ i j : Nat, i ≤ j → j < s.length → s.toArray[i]! ≤ s.toArray[j]! := fun i j hij hj => by
    have h1 : s.toArray[i]! = s[i]'(by omega) := by simp [show i < s.length by omega]
    have h2 : s.toArray[j]! = s[j] := by simp [hj]
    rw [h1, h2]
    rcases Nat.lt_or_ge i j with h | h
    · exact List.pairwise_iff_getElem.1 hs i j (by omega) hj h
    · have : i = j := by omega
      subst this; exact Int.le_refl _
  have key : ∀ m : Nat, m ≤ s.length → (compactUpTo s.toArray m).Nodup ∧ (∀ x ∈ compactUpTo s.toArray m, ∃ j, j < m ∧ x = s.toArray[j]!) ∧ ∀ j, j < m → s.toArray[j]! ∈ compactUpTo s.toArray m := by
    intro m
    induction m with
    | zero => intro _; exact ⟨by simp [compactUpTo], fun x hx => by simp [compactUpTo] at hx, fun j hj => absurd hj (by omega)⟩
    | succ m ih =>
      intro hm
      obtain ⟨h1, h2, h3⟩ := ih (by omega)
      rw [compactUpTo_succ]
      cases hk : keeps s.toArray m with
      | true =>
        simp only [if_true]
        refine ⟨?_, fun x hx => ?_, fun j hj => ?_⟩
        · rw [List.nodup_append]
          refine ⟨h1, by simp, fun x hx y hy => ?_⟩
          have hy := List.mem_singleton.1 hy
          obtain ⟨j, hj, e⟩ := h2 x hx
          simp only [keeps, decide_eq_true_eq] at hk
          have a1 := hle j (m - 1) (by omega) (by omega)
          have a2 := hle (m - 1) m (by omega) (by omega)
          rw [e, hy]
          rcases hk with h | h
          · omega
          · omega
        · rcases List.mem_append.1 hx with h | h
          · obtain ⟨j, hj, e⟩ := h2 x h
            exact ⟨j, by omega, e⟩
          · simp only [List.mem_singleton] at h
            exact ⟨m, by omega, h⟩
        · rcases Nat.lt_or_ge j m with h | h
          · exact List.mem_append_left _ (h3 j h)
          · have : j = m := by omega
            subst this
            exact List.mem_append_right _ (List.mem_singleton.2 rfl)
      | false =>
        simp only [Bool.false_eq_true, if_false, List.append_nil]
        refine ⟨h1, fun x hx => ?_, fun j hj => ?_⟩
        · obtain ⟨j, hj, e⟩ := h2 x hx
          exact ⟨j, by omega, e⟩
        · rcases Nat.lt_or_ge j m with h | h
          · exact h3 j h
          · have : j = m := by omega
            subst this
            simp only [keeps, decide_eq_false_iff_not] at hk
            have e : s.toArray[j]! = s.toArray[j - 1]! := by
              refine Classical.byContradiction fun h => hk (.inr h)
            rw [e]
            refine h3 (j - 1) ?_
            have : j ≠ 0 := fun h => hk (.inl h)
            omega
  obtain ⟨h1, h2, h3⟩ := key s.length (Nat.le_refl _)
  unfold compactI compact
  refine ⟨h1, fun x => ⟨fun hx => ?_, fun hx => ?_⟩⟩
  · obtain ⟨j, hj, e⟩ := h2 x hx
    rw [e, show s.toArray[j]! = s[j] by simp [hj]]
    exact List.getElem_mem hj
  · obtain ⟨j, hj, rfl⟩ := List.getElem_of_mem hx
    rw [show s[j] = s.toArray[j]! by simp [hj]]
    exact h3 j hj
theorem sortI_perm (l : List Int) : (sortI l).Perm l := by unfold sortI; exact List.mergeSort_perm l _
theorem sortI_sorted (l : List Int) : (sortI l).Pairwise (· ≤ ·) := by
  unfold sortI
  have := List.pairwise_mergeSort (le := fun x y : Int => decide (x ≤ y)) (fun a b c h1 h2 => by simp at *; omega) (fun a b => by simp; omega) l
  simpa using this
theorem distinct (l : List Int) : (compactI (sortI l)).Nodup ∧ ∀ x, x ∈ compactI (sortI l) ↔ x ∈ l := by
  obtain ⟨h1, h2⟩ := compact_sorted (sortI_sorted l)
  exact ⟨h1, fun x => (h2 x).trans (sortI_perm l).mem_iff⟩
theorem nodup_sub : ∀ {C F : List Int}, C.Nodup → (∀ x ∈ C, x ∈ F) → C.length ≤ F.length ∧ (C.length = F.length → F.Nodup ∧ ∀ x ∈ F, x ∈ C)
  | [], F, _, _ => ⟨by simp, fun h => by
      have : F = [] := List.length_eq_zero_iff.1 h.symm
      subst this; simp⟩
  | a :: C, F, hn, hs => by
    rw [List.nodup_cons] at hn
    have ha := hs a (by simp)
    have hp := List.perm_cons_erase ha
    have hl := hp.length_eq
    simp only [List.length_cons] at hl ⊢
    obtain ⟨h1, h2⟩ := nodup_sub (C := C) (F := F.erase a) hn.2 (fun x hx => by
      have hne : x ≠ a := fun e => hn.1 (e ▸ hx)
      exact (List.mem_erase_of_ne hne).2 (hs x (by simp [hx])))
    refine ⟨by omega, fun h => ?_⟩
    obtain ⟨h3, h4⟩ := h2 (by omega)
    refine ⟨?_, fun x hx => ?_⟩
    · rw [hp.nodup_iff, List.nodup_cons]
      exact ⟨fun h => hn.1 (h4 a h), h3⟩
    · rcases List.mem_cons.1 (hp.mem_iff.1 hx) with h | h
      · simp [h]
      · exact List.mem_cons_of_mem _ (h4 x h)
theorem distinct_len {l F : List Int} (h : ∀ x, x ∈ l ↔ x ∈ F) : (compactI (sortI l)).length = F.length ↔ F.Nodup := by
  obtain ⟨h1, h2⟩ := distinct l
  constructor
  · intro hl
    exact ((nodup_sub h1 fun x hx => (h x).1 ((h2 x).1 hx)).2 hl).1
  · intro hF
    have a := (nodup_sub h1 fun x hx => (h x).1 ((h2 x).1 hx)).1
    have b := (nodup_sub hF fun x hx => (h2 x).2 ((h x).2 hx)).1
    omega
end Go.Pv

set_option linter.unusedSimpArgs false
set_option linter.unusedVariables false
namespace Go.Pv
def froms (l : List Offer) : List Int → List Int
  | [] => []
  | i :: p => (match idx l i with | some o => o.From | none => 0) :: froms l p
theorem froms_len (l : List Offer) : ∀ p, (froms l p).length = p.length
  | [] => rfl
  | _ :: p => by simp [froms, froms_len l p]
theorem tos_cons {l : List Offer} {i : Int} {o : Offer} (h : idx l i = some o) (p : List Int) : tos l (i :: p) = o.To :: tos l p := by simp [tos, h]
theorem froms_cons {l : List Offer} {i : Int} {o : Offer} (h : idx l i = some o) (p : List Int) : froms l (i :: p) = o.From :: froms l p := by simp [froms, h]
theorem visited_eq {l : List Offer} : ∀ (w : List Int) (v u : Int), Path l v w u → v :: tos l w = froms l w ++ [u]
  | [], v, u, h => by
    have e : v = u := h
    subst e; rfl
  | i :: w, v, u, ⟨o, h1, h2, h3⟩ => by
    rw [tos_cons h1, froms_cons h1, visited_eq w o.To u h3, h2]; rfl
theorem tos_app (l : List Offer) : ∀ p q, tos l (p ++ q) = tos l p ++ tos l q
  | [], q => rfl
  | i :: p, q => by simp [tos, tos_app l p q]
theorem path_start {l : List Offer} {i : Int} {p : List Int} {v v' u u' : Int} (h : Path l v (i :: p) u) (h' : Path l v' (i :: p) u') : v = v' := by
  obtain ⟨o, h1, h2, _⟩ := h
  obtain ⟨o', h1', h2', _⟩ := h'
  rw [h1] at h1'; cases h1'
  rw [← h2, ← h2']
def Followed (l : List Offer) (A : List Int) (c : Ratio) (L : List Int) : Prop :=
  (A = [] ∧ c = ⟨1, 1⟩ ∧ L = []) ∨ (A ≠ [] ∧ ∃ v u, Path l v A u ∧ L = v :: tos l A ∧ RatOk c (50 ^ A.length) ∧ toRat c = rtp l A)
theorem followed_step {n : Int} {l : List Offer} (hm : MarketOk ⟨n, l⟩) {A : List Int} {c : Ratio} {L : List Int} (h : Followed l A c L) (hA : A.length ≤ 6) {b : Int} {o : Offer} (ho : idx l b = some o) :
    ∃ r, m_rate_ratio o.Num o.Den = some (rateO o) ∧ m_rate_times c (rateO o) = some r ∧ RatOk r (50 ^ (A.length + 1)) ∧ toRat r = rtp l (A ++ [b]) := by
  have hok := hm.good o (idx_mem ho)
  have hr := rateO_ok hok
  have hok2 := hok
  simp only [offerOk, goodOffer, Bool.and_eq_true, decide_eq_true_eq] at hok2
  have hc : RatOk c (50 ^ A.length) ∧ toRat c = rtp l A := by
    rcases h with ⟨rfl, rfl, _⟩ | ⟨_, v, u, _, _, h1, h2⟩
    · exact ⟨by simpa using ratOk_one, by rw [toRat_one]; rfl⟩
    · exact ⟨h1, h2⟩
  have hp := pow50_le hA
  have e6 : (50 : Int) ^ 6 = 15625000000 := by decide
  rw [e6] at hp
  have hc6 := hc.1.le hp
  have a1 := hc6.n1; have a2 := hc6.n2; have a3 := hc6.d1; have a4 := hc6.d2
  have b1 := hr.n1; have b2 := hr.n2; have b3 := hr.d1; have b4 := hr.d2
  have m1 := Int.mul_le_mul a2 b2 (by omega) (by decide)
  have m2 := Int.mul_le_mul a4 b4 (by omega) (by decide)
  have e7 : (15625000000 : Int) * 50 = 781250000000 := by decide
  rw [e7] at m1 m2
  refine ⟨mulN c (rateO o), ratio_some _ _ (by omega) (by omega), ?_, ?_, ?_⟩
  · rw [times_some c (rateO o) (by omega) (by omega) (by omega) (by omega) (by omega) (by omega), timesN_eq hc.1 hr]
  · rw [Int.pow_succ]; exact mulN_ok hc.1 hr
  · rw [toRat_mulN hc.1.n1 hc.1.d1 hr.n1 hr.d1, rtp_app, hc.2, rtp, rtp, rtI, ho, Rat.mul_one]
theorem idx_app_at {w A B : List Int} {b : Int} (h : w = A ++ b :: B) : idx w (A.length : Int) = some b := by
  rw [idx_nat, h, List.getElem?_append_right (Nat.le_refl _)]; simp
theorem follow_l1 {n : Int} {l : List Offer} (hm : MarketOk ⟨n, l⟩) {w : List Int} (hw : (w.length : Int) ≤ n) : ∀ (B A : List Int) (c : Ratio) (L : List Int), w = A ++ B → Followed l A c L →
    ∃ y, iter (m_rate_market_follow_l1 ⟨n, l⟩ w) ((A.length : Int), c, L) = some y ∧ ((∃ r vis, y = .inl (r, vis) ∧ Followed l w r vis) ∨ (∃ r, y = .inr (r, [], false) ∧ w ≠ [] ∧ ∀ v u, ¬ Path l v w u))
  | [], A, c, L, hA, h => by
    rw [List.append_nil] at hA
    subst hA
    refine ⟨.inl (c, L), iter_done ?_, .inl ⟨c, L, rfl, h⟩⟩
    rw [m_rate_market_follow_l1, decide_eq_false (by omega)]; rfl
  | b :: B, A, c, L, hA, h => by
    have hn2 := hm.n2
    have hlen := hm.len
    dsimp only at hn2 hlen
    have hl : w.length = A.length + (B.length + 1) := by rw [hA]; simp
    have e1 := idx_app_at hA
    have hne : w ≠ [] := by intro e; rw [e] at hl; simp at hl
    have hwi : IntKind.i64.wrap ((A.length : Int) + 1) = ((A.length + 1 : Nat) : Int) := by rw [wrap_i64_eq (by omega)]; omega
    have hdt : decide ((A.length : Int) < (w.length : Int)) = true := decide_eq_true (by omega)
    have hLl : L.length ≤ 10 := by
      rcases h with ⟨_, _, rfl⟩ | ⟨_, v, u, _, rfl, _⟩
      · simp
      · simp [tos_len]; omega
    -- where it is no walk
    have hbad : (∀ v u, ¬ Path l v w u) → m_rate_market_follow_l1 ⟨n, l⟩ w ((A.length : Int), c, L) = some (.inr (.inr (c, [], false))) →
        ∃ y, iter (m_rate_market_follow_l1 ⟨n, l⟩ w) ((A.length : Int), c, L) = some y ∧ ((∃ r vis, y = .inl (r, vis) ∧ Followed l w r vis) ∨ (∃ r, y = .inr (r, [], false) ∧ w ≠ [] ∧ ∀ v u, ¬ Path l v w u)) := fun h1 h2 =>
      ⟨_, iter_done h2, .inr ⟨c, rfl, hne, h1⟩⟩
    by_cases hb0 : b < 0
    · refine hbad (fun v u hp => ?_) ?_
      · rw [hA] at hp
        obtain ⟨x, _, o, h3, _⟩ := path_app.1 hp
        have := (idx_some h3).1; omega
      · rw [m_rate_market_follow_l1, hdt]
        simp only [cond_true, e1, Option.bind_some, decide_eq_true hb0]
    · by_cases hb1 : (l.length : Int) ≤ b
      · refine hbad (fun v u hp => ?_) ?_
        · rw [hA] at hp
          obtain ⟨x, _, o, h3, _⟩ := path_app.1 hp
          have := (idx_some h3).2.1; omega
        · rw [m_rate_market_follow_l1, hdt]
          simp only [cond_true, e1, Option.bind_some, decide_eq_false hb0, cond_false, decide_eq_true hb1]
      · obtain ⟨o, o1, _, _, o2⟩ := idx_lt (l := l) (i := b) (by omega) (by omega)
        obtain ⟨r, r1, r2, r3, r4⟩ := followed_step hm h (by omega) o1
        rcases h with ⟨rfl, rfl, rfl⟩ | ⟨hAne, v, u, hp, hL, hc1, hc2⟩
        · have hf : Followed l ([] ++ [b]) r [o.From, o.To] := .inr ⟨by simp, o.From, o.To, ⟨o, o1, rfl, rfl⟩, by rw [List.nil_append, tos_cons o1]; rfl, r3, r4⟩
          obtain ⟨y, y1, y2⟩ := follow_l1 hm hw B ([] ++ [b]) r [o.From, o.To] (by simpa using hA) hf
          refine ⟨y, iter_step (s' := ((([] ++ [b] : List Int).length : Int), r, [o.From, o.To])) ?_ y1, y2⟩
          rw [m_rate_market_follow_l1, hdt]
          simp only [cond_true, e1, Option.bind_some, decide_eq_false hb0, cond_false, decide_eq_false hb1]
          simp only [List.length_nil, Int.ofNat_zero, Int.lt_irrefl, decide_false, decide_true, cond_false, cond_true, o1, Option.bind_some]
          simp [guardO, r1, r2, show (0 : Int) ≤ n by omega, wrap_i64_eq]
        · obtain ⟨A', il, rfl⟩ : ∃ A' il, A = A' ++ [il] := ⟨A.dropLast, A.getLast hAne, (List.dropLast_concat_getLast hAne).symm⟩
          have hAl : (A' ++ [il]).length = A'.length + 1 := by simp
          obtain ⟨x, x1, x2⟩ := path_app.1 hp
          obtain ⟨o6, o61, o62, o63⟩ := x2
          have o63 : o6.To = u := o63
          have epos : decide (0 < ((A' ++ [il]).length : Int)) = true := decide_eq_true (by omega)
          have ew : IntKind.i64.wrap (((A' ++ [il]).length : Int) - 1) = (A'.length : Int) := by rw [wrap_i64_eq (by omega)]; simp
          have e5 : idx w (A'.length : Int) = some il := idx_app_at (B := b :: B) (by rw [hA]; simp)
          by_cases hu : o.From = o6.To
          · have hf : Followed l (A' ++ [il] ++ [b]) r (L ++ [o.To]) := .inr ⟨by simp, v, o.To, path_app.2 ⟨u, hp, o, o1, by rw [hu, o63], rfl⟩, by rw [hL, tos_app l (A' ++ [il]) [b], tos_cons o1]; rfl, by simpa using r3, r4⟩
            obtain ⟨y, y1, y2⟩ := follow_l1 hm hw B (A' ++ [il] ++ [b]) r (L ++ [o.To]) (by rw [hA]; simp) hf
            refine ⟨y, iter_step (s' := (((A' ++ [il] ++ [b]).length : Int), r, L ++ [o.To])) ?_ y1, y2⟩
            have e0 : decide (((A' ++ [il]).length : Int) = 0) = false := decide_eq_false (by omega)
            have en : decide (((A' ++ [il]).length : Int) ≤ n) = true := decide_eq_true (by omega)
            rw [m_rate_market_follow_l1, hdt]
            simp only [cond_true, e1, Option.bind_some, decide_eq_false hb0, cond_false, decide_eq_false hb1, epos, o1, ew, e5, o61, hu, not_true_eq_false, decide_false, e0, en, r1, r2]
            rw [guardO_pos (by simp; omega), hwi]
            simp
            omega
          · refine hbad (fun v' u' hp' => ?_) ?_
            · rw [hA] at hp'
              obtain ⟨y, y1, o', y2, y3, _⟩ := path_app.1 hp'
              rw [o1] at y2; cases y2
              have hv : v' = v := by
                cases A' with
                | nil => exact path_start y1 hp
                | cons a A'' => exact path_start y1 hp
              subst hv
              have := path_det y1 hp
              exact hu (by rw [y3, this, o63])
            · rw [m_rate_market_follow_l1, hdt]
              simp only [cond_true, e1, Option.bind_some, decide_eq_false hb0, cond_false, decide_eq_false hb1, epos, o1, ew, e5, o61, hu, not_false_eq_true, decide_true]
theorem follow_eq {n : Int} {l : List Offer} (hm : MarketOk ⟨n, l⟩) {w : List Int} (hw : (w.length : Int) ≤ n) : ∃ r vis ok, m_rate_market_follow ⟨n, l⟩ w = some (r, vis, ok) ∧ ((ok = true ∧ Followed l w r vis) ∨ (ok = false ∧ w ≠ [] ∧ ∀ v u, ¬ Path l v w u)) := by
  obtain ⟨y, y1, y2⟩ := follow_l1 hm hw w [] ⟨1, 1⟩ [] rfl (.inl ⟨rfl, rfl, rfl⟩)
  rw [show ((([] : List Int).length : Nat) : Int) = 0 from rfl] at y1
  rw [m_rate_market_follow, y1]
  rcases y2 with ⟨r, vis, rfl, h⟩ | ⟨r, rfl, h⟩
  · exact ⟨r, vis, true, rfl, .inl ⟨rfl, h⟩⟩
  · exact ⟨r, [], false, rfl, .inr ⟨rfl, h⟩⟩
def IsRound (n : Int) (l : List Offer) (w : List Int) : Prop := w ≠ [] ∧ (w.length : Int) ≤ n ∧ (froms l w).Nodup ∧ 1 < rtp l w ∧ ∃ v, Path l v w v
theorem Gains_eq (n : Int) (l : List Offer) (w : List Int) (hw : w.length ≤ 1000000) : ∃ r, m_rate_Gains n l w = some r ∧ r.2 = ofCode n l ∧ (ofCode n l ≠ 0 → r.1 = false) ∧ (ofCode n l = 0 → (r.1 = true ↔ IsRound n l w)) := by
  rw [m_rate_Gains, of_eq]
  by_cases h0 : ofCode n l = 0
  · have hm := MarketOk.of h0
    have hn1 := hm.n1
    have hn2 := hm.n2
    dsimp only at hn1 hn2
    rw [if_pos h0]
    simp only [Option.bind_some, not_true_eq_false, decide_false, cond_false]
    have fin : ∀ b : Bool, (b = true ↔ IsRound n l w) → ∃ r, (some (b, (0 : Int)) : Option (Bool × Int)) = some r ∧ r.2 = ofCode n l ∧ (ofCode n l ≠ 0 → r.1 = false) ∧ (ofCode n l = 0 → (r.1 = true ↔ IsRound n l w)) := fun b hb =>
      ⟨_, rfl, h0.symm, fun h => absurd h0 h, fun _ => hb⟩
    by_cases he : w = []
    · subst he
      exact fin false ⟨fun h => (by cases h), fun h => absurd rfl h.1⟩
    · have hl0 : ¬ (w.length : Int) = 0 := fun h => he (List.length_eq_zero_iff.1 (by omega))
      by_cases hl : n < (w.length : Int)
      · rw [decide_eq_true hl, Bool.or_true, cond_true]
        exact fin false ⟨fun h => (by cases h), fun h => by have := h.2.1; omega⟩
      · rw [decide_eq_false hl, decide_eq_false hl0, Bool.or_false, cond_false]
        obtain ⟨r, vis, ok, f1, f2⟩ := follow_eq hm (w := w) (by omega)
        rw [f1]
        simp only [Option.bind_some]
        rcases f2 with ⟨rfl, hf⟩ | ⟨rfl, _, hno⟩
        · rcases hf with ⟨h, _⟩ | ⟨_, v, u, hp, hvis, ho, hr⟩
          · exact absurd h he
          · have hve := visited_eq w v u hp
            have hfl := froms_len l w
            rw [← hvis] at hve
            have e1 : idx vis 0 = some v := by rw [hvis]; rfl
            have hvl : vis.length = w.length + 1 := by rw [hve]; simp [hfl]
            have e2 : idx vis (IntKind.i64.wrap ((vis.length : Int) - 1)) = some u := by
              rw [wrap_i64_eq (by omega), show (vis.length : Int) - 1 = ((w.length : Nat) : Int) by omega, idx_nat, hve, List.getElem?_append_right (by omega)]
              simp [hfl]
            simp only [Bool.not_true, cond_false, e1, e2, Option.bind_some]
            by_cases hvu : v = u
            · subst hvu
              have hmem : ∀ x, x ∈ vis ↔ x ∈ froms l w := fun x => by
                rw [hve, List.mem_append, List.mem_singleton]
                constructor
                · rintro (h | rfl)
                  · exact h
                  · cases w with
                    | nil => exact absurd rfl he
                    | cons i w =>
                      obtain ⟨o, g1, g2, _⟩ := hp
                      rw [froms_cons g1, g2]; simp
                · exact .inl
              have hdl := distinct_len hmem
              rw [hfl] at hdl
              have h50 := pow50_le (show w.length ≤ 6 by omega)
              have e6 : (50 : Int) ^ 6 = 15625000000 := by decide
              rw [e6] at h50
              have ho6 := ho.le h50
              have a1 := ho6.n1; have a2 := ho6.n2; have a3 := ho6.d1; have a4 := ho6.d2
              have hab := above_eq (a := r) (b := ⟨1, 1⟩) (x := 15625000000) (y := 1) (by omega) (by omega) (by decide) (by decide) (by decide)
              have hgi := gainsW_iff (x := ⟨w, r, v⟩) ho
              rw [gainsW] at hgi
              dsimp only at hgi
              rw [hr] at hgi
              simp only [not_true_eq_false, decide_false, cond_false]
              rw [guardO_pos (by omega), guardO_pos (by rw [sortI_length]; omega)]
              by_cases hc : ((compactI (sortI vis)).length : Int) = (w.length : Int)
              · rw [decide_eq_true hc, hab]
                simp only [cond_true, Option.bind_some]
                refine fin _ (hgi.trans ⟨fun h => ⟨he, by omega, hdl.1 (by omega), h, v, hp⟩, fun h => h.2.2.2.1⟩)
              · rw [decide_eq_false hc]
                simp only [cond_false, Option.bind_some]
                exact fin false ⟨fun h => (by cases h), fun h => absurd (by have := hdl.2 h.2.2.1; omega) hc⟩
            · rw [decide_eq_true hvu, cond_true]
              refine fin false ⟨fun h => (by cases h), fun h => ?_⟩
              obtain ⟨x, hx⟩ := h.2.2.2.2
              have : x = v := by
                cases w with
                | nil => exact absurd rfl he
                | cons i w => exact path_start hx hp
              subst this
              exact absurd (path_det hx hp) hvu
        · exact fin false ⟨fun h => (by cases h), fun h => by obtain ⟨v, hv⟩ := h.2.2.2.2; exact absurd hv (hno v v)⟩
  · rw [if_neg h0]
    simp only [Option.bind_some, decide_eq_true (show ¬ ofCode n l = 0 from h0), cond_true]
    exact ⟨_, rfl, rfl, fun _ => rfl, fun h => absurd h h0⟩
end Go.Pv

set_option linter.unusedSimpArgs false
set_option linter.unusedVariables false
namespace Go.Pv
theorem refWalk_l1 {l : List Offer} {w : List Int} (hw : w.length ≤ 1000) : ∀ (B A : List Int), w = A ++ B → (A = [] ∨ ∃ v u, Path l v A u) →
    ∃ y, iter (m_cocketref01_Walk_l1 l w) (A.length : Int) = some y ∧ ((y = .inl () ∧ (w = [] ∨ ∃ v u, Path l v w u)) ∨ (y = .inr false ∧ w ≠ [] ∧ ∀ v u, ¬ Path l v w u))
  | [], A, hA, h => by
    rw [List.append_nil] at hA
    subst hA
    refine ⟨.inl (), iter_done ?_, .inl ⟨rfl, h⟩⟩
    rw [m_cocketref01_Walk_l1, decide_eq_false (by omega)]; rfl
  | b :: B, A, hA, h => by
    have hl : w.length = A.length + (B.length + 1) := by rw [hA]; simp
    have e1 := idx_app_at hA
    have hne : w ≠ [] := by intro e; rw [e] at hl; simp at hl
    have hdt : decide ((A.length : Int) < (w.length : Int)) = true := decide_eq_true (by omega)
    have hbad : (∀ v u, ¬ Path l v w u) → m_cocketref01_Walk_l1 l w (A.length : Int) = some (.inr (.inr false)) →
        ∃ y, iter (m_cocketref01_Walk_l1 l w) (A.length : Int) = some y ∧ ((y = .inl () ∧ (w = [] ∨ ∃ v u, Path l v w u)) ∨ (y = .inr false ∧ w ≠ [] ∧ ∀ v u, ¬ Path l v w u)) := fun h1 h2 =>
      ⟨_, iter_done h2, .inr ⟨rfl, hne, h1⟩⟩
    by_cases hb0 : b < 0
    · refine hbad (fun v u hp => ?_) ?_
      · rw [hA] at hp
        obtain ⟨x, _, o, h3, _⟩ := path_app.1 hp
        have := (idx_some h3).1; omega
      · rw [m_cocketref01_Walk_l1, hdt]
        simp only [cond_true, e1, Option.bind_some, decide_eq_true hb0]
    · by_cases hb1 : (l.length : Int) ≤ b
      · refine hbad (fun v u hp => ?_) ?_
        · rw [hA] at hp
          obtain ⟨x, _, o, h3, _⟩ := path_app.1 hp
          have := (idx_some h3).2.1; omega
        · rw [m_cocketref01_Walk_l1, hdt]
          simp only [cond_true, e1, Option.bind_some, decide_eq_false hb0, cond_false, decide_eq_true hb1]
      · obtain ⟨o, o1, _, _, o2⟩ := idx_lt (l := l) (i := b) (by omega) (by omega)
        have hwi : IntKind.i64.wrap ((A.length : Int) + 1) = ((A.length + 1 : Nat) : Int) := by rw [wrap_i64_eq (by omega)]; omega
        rcases h with rfl | ⟨v, u, hp⟩
        · obtain ⟨y, y1, y2⟩ := refWalk_l1 hw B ([] ++ [b]) (by simpa using hA) (.inr ⟨o.From, o.To, (show Path l o.From [b] o.To from ⟨o, o1, rfl, rfl⟩)⟩)
          refine ⟨y, iter_step (s' := (([] ++ [b] : List Int).length : Int)) ?_ y1, y2⟩
          rw [m_cocketref01_Walk_l1, hdt]
          simp only [cond_true, e1, Option.bind_some, decide_eq_false hb0, cond_false, decide_eq_false hb1]
          simp [wrap_i64_eq]
        · by_cases hAe : A = []
          · subst hAe
            obtain ⟨y, y1, y2⟩ := refWalk_l1 hw B ([] ++ [b]) (by simpa using hA) (.inr ⟨o.From, o.To, (show Path l o.From [b] o.To from ⟨o, o1, rfl, rfl⟩)⟩)
            refine ⟨y, iter_step (s' := (([] ++ [b] : List Int).length : Int)) ?_ y1, y2⟩
            rw [m_cocketref01_Walk_l1, hdt]
            simp only [cond_true, e1, Option.bind_some, decide_eq_false hb0, cond_false, decide_eq_false hb1]
            simp [wrap_i64_eq]
          · obtain ⟨A', il, rfl⟩ : ∃ A' il, A = A' ++ [il] := ⟨A.dropLast, A.getLast hAe, (List.dropLast_concat_getLast hAe).symm⟩
            have hAl : (A' ++ [il]).length = A'.length + 1 := by simp
            obtain ⟨x, x1, x2⟩ := path_app.1 hp
            obtain ⟨o6, o61, o62, o63⟩ := x2
            have o63 : o6.To = u := o63
            have epos : decide (0 < ((A' ++ [il]).length : Int)) = true := decide_eq_true (by omega)
            have ew : IntKind.i64.wrap (((A' ++ [il]).length : Int) - 1) = (A'.length : Int) := by rw [wrap_i64_eq (by omega)]; simp
            have e5 : idx w (A'.length : Int) = some il := idx_app_at (B := b :: B) (by rw [hA]; simp)
            by_cases hu : o6.To = o.From
            · obtain ⟨y, y1, y2⟩ := refWalk_l1 hw B (A' ++ [il] ++ [b]) (by rw [hA]; simp) (.inr ⟨v, o.To, path_app.2 ⟨u, hp, o, o1, by rw [← hu, o63], rfl⟩⟩)
              refine ⟨y, iter_step (s' := ((A' ++ [il] ++ [b]).length : Int)) ?_ y1, y2⟩
              rw [m_cocketref01_Walk_l1, hdt]
              simp only [cond_true, e1, Option.bind_some, decide_eq_false hb0, cond_false, decide_eq_false hb1, epos, o1, ew, e5, o61, hu, not_true_eq_false, decide_false]
              rw [hwi]
              simp
              omega
            · refine hbad (fun v' u' hp' => ?_) ?_
              · rw [hA] at hp'
                obtain ⟨y, y1, o', y2, y3, _⟩ := path_app.1 hp'
                rw [o1] at y2; cases y2
                have hv : v' = v := by
                  cases A' with
                  | nil => exact path_start y1 hp
                  | cons a A'' => exact path_start y1 hp
                subst hv
                have := path_det y1 hp
                exact hu (by rw [y3, this, o63])
              · rw [m_cocketref01_Walk_l1, hdt]
                simp only [cond_true, e1, Option.bind_some, decide_eq_false hb0, cond_false, decide_eq_false hb1, epos, o1, ew, e5, o61, hu, not_false_eq_true, decide_true]
theorem refWalk_eq (l : List Offer) (w : List Int) (hw : w.length ≤ 1000) : ∃ b, m_cocketref01_Walk l w = some b ∧ (b = true ↔ w = [] ∨ ∃ v u, Path l v w u) := by
  obtain ⟨y, y1, y2⟩ := refWalk_l1 (l := l) hw w [] rfl (.inl rfl)
  rw [show ((([] : List Int).length : Nat) : Int) = 0 from rfl] at y1
  rw [m_cocketref01_Walk, y1]
  rcases y2 with ⟨rfl, h⟩ | ⟨rfl, h1, h2⟩
  · exact ⟨true, rfl, fun _ => h, fun _ => rfl⟩
  · exact ⟨false, rfl, fun h => (by cases h), fun h => by
      rcases h with h | ⟨v, u, h⟩
      · exact absurd h h1
      · exact absurd h (h2 v u)⟩
end Go.Pv

set_option linter.unusedSimpArgs false
set_option linter.unusedVariables false
namespace Go.Pv
end Go.Pv

set_option linter.unusedSimpArgs false
set_option linter.unusedVariables false
namespace Go.Pv
def chg (l : List Offer) : List Int → Int → Option Int
  | [], a => some a
  | i :: p, a => match idx l i with
    | some o => if 1099511627776 < a * o.Num / o.Den then none else chg l p (a * o.Num / o.Den)
    | none => none
theorem chg_app (l : List Offer) : ∀ (p q : List Int) (a : Int), chg l (p ++ q) a = (chg l p a).bind (chg l q)
  | [], q, a => rfl
  | i :: p, q, a => by
    rw [List.cons_append, chg, chg]
    cases idx l i with
    | none => rfl
    | some o =>
      dsimp only
      split
      · rfl
      · exact chg_app l p q _
theorem chg_bounds {n : Int} {l : List Offer} (hm : MarketOk ⟨n, l⟩) : ∀ (p : List Int) (a x : Int), 0 ≤ a ∧ a ≤ 1099511627776 → chg l p a = some x → 0 ≤ x ∧ x ≤ 1099511627776
  | [], a, x, ha, h => by
    have e : a = x := Option.some.inj h
    subst e; exact ha
  | i :: p, a, x, ha, h => by
    rw [chg] at h
    cases ho : idx l i with
    | none => rw [ho] at h; cases h
    | some o =>
      rw [ho] at h
      dsimp only at h
      have hok := hm.good o (idx_mem ho)
      simp only [offerOk, goodOffer, Bool.and_eq_true, decide_eq_true_eq] at hok
      split at h
      · cases h
      · refine chg_bounds hm p _ x ⟨?_, by omega⟩ h
        exact Int.ediv_nonneg (Int.mul_nonneg ha.1 (by omega)) (by omega)
theorem step_eq {a : Int} {o : Offer} {n : Int} (ha : 0 ≤ a ∧ a ≤ 1099511627776) (ho : offerOk n o = true) : IntKind.i64.wrap ((IntKind.i64.wrap (a * o.Num)).tdiv o.Den) = a * o.Num / o.Den ∧ 0 ≤ a * o.Num / o.Den := by
  simp only [offerOk, goodOffer, Bool.and_eq_true, decide_eq_true_eq] at ho
  have m := mul_bounds (x := a) (y := o.Num) (a := 1099511627776) (b := 50) ha (by omega)
  have h0 : 0 ≤ a * o.Num / o.Den := Int.ediv_nonneg m.1 (by omega)
  have h1 : a * o.Num / o.Den ≤ a * o.Num := Int.ediv_le_self _ m.1
  rw [wrap_i64_eq (x := a * o.Num) (by omega), tdiv_eq m.1, wrap_i64_eq (by omega)]
  exact ⟨rfl, h0⟩
theorem change_l1 {n : Int} {l : List Offer} (hm : MarketOk ⟨n, l⟩) {w : List Int} (hw : w.length ≤ 1000) : ∀ (B A : List Int) (a : Int), w = A ++ B → (0 ≤ a ∧ a ≤ 1099511627776) → (∀ i ∈ B, ∃ o, idx l i = some o) →
    iter (m_rate_Change_l1 l w) (a, (A.length : Int)) = some (match chg l B a with | some x => .inl x | none => .inr (0, 4))
  | [], A, a, hA, ha, hB => by
    rw [List.append_nil] at hA
    subst hA
    refine iter_done ?_
    rw [m_rate_Change_l1, decide_eq_false (by omega)]; rfl
  | b :: B, A, a, hA, ha, hB => by
    have hl : w.length = A.length + (B.length + 1) := by rw [hA]; simp
    have e1 := idx_app_at hA
    obtain ⟨o, o1⟩ := hB b (by simp)
    have hok := hm.good o (idx_mem o1)
    obtain ⟨s1, s2⟩ := step_eq ha hok
    have hok2 := hok
    simp only [offerOk, goodOffer, Bool.and_eq_true, decide_eq_true_eq] at hok2
    rw [chg, o1]
    dsimp only
    by_cases hc : 1099511627776 < a * o.Num / o.Den
    · rw [if_pos hc]
      refine iter_done ?_
      rw [m_rate_Change_l1, decide_eq_true (by omega)]
      simp only [cond_true, e1, o1, Option.bind_some]
      rw [guardO_pos (by omega), s1, decide_eq_true hc]; rfl
    · rw [if_neg hc]
      refine iter_step (s' := (a * o.Num / o.Den, ((A ++ [b]).length : Int))) ?_ (change_l1 hm hw B (A ++ [b]) _ (by rw [hA]; simp) ⟨s2, by omega⟩ (fun i hi => hB i (by simp [hi])))
      rw [m_rate_Change_l1, decide_eq_true (by omega)]
      simp only [cond_true, e1, o1, Option.bind_some]
      rw [guardO_pos (by omega), s1, decide_eq_false hc, wrap_i64_eq (by omega)]
      simp
theorem path_idx {l : List Offer} : ∀ {w : List Int} {v u : Int}, Path l v w u → ∀ i ∈ w, ∃ o, idx l i = some o
  | [], _, _, _, i, hi => by simp at hi
  | j :: w, v, u, ⟨o, h1, _, h3⟩, i, hi => by
    rcases List.mem_cons.1 hi with rfl | h
    · exact ⟨o, h1⟩
    · exact path_idx h3 i h
def changeR (l : List Offer) (w : List Int) (a : Int) : Int × Int := match chg l w a with | some x => (x, 0) | none => (0, 4)
theorem Change_ok {n : Int} {l : List Offer} (hm : MarketOk ⟨n, l⟩) (h0 : ofCode n l = 0) {w : List Int} {a : Int} (hw : w.length ≤ 20) (ha : 0 ≤ a ∧ a ≤ 1099511627776) (hp : w = [] ∨ ∃ v u, Path l v w u) : m_rate_Change n l w a = some (changeR l w a) := by
  have hc : ((decide (20 < (w.length : Int)) || decide (a < 0)) || decide (1099511627776 < a)) = false := by
    simp only [Bool.or_eq_false_iff, decide_eq_false_iff_not]; omega
  obtain ⟨y, z, h1, h2, h3⟩ := follow_walk n l w h0 (by omega) _ 0 ⟨1, 1⟩ [] rfl (by omega) (by simp) (by simp) (by simp) ⟨by simp, fun _ => rfl⟩
  obtain ⟨b, b1, b2⟩ := refWalk_eq l w (by omega)
  have hb := b2.2 hp
  subst hb
  rw [m_rate_Change, of_eq, if_pos h0]
  simp only [Option.bind_some, not_true_eq_false, decide_false, cond_false, hc, m_rate_market_follow, h1]
  rw [m_cocketref01_Walk, h2] at b1
  rcases h3 with ⟨⟨p, rfl⟩, rfl, hin⟩ | ⟨⟨p, q, rfl⟩, rfl⟩
  · have := change_l1 hm (show w.length ≤ 1000 by omega) w [] a rfl ha (fun i hi => by
      rcases hp with h | ⟨v, u, h⟩
      · rw [h] at hi; simp at hi
      · exact path_idx h i hi)
    rw [show ((([] : List Int).length : Nat) : Int) = 0 from rfl] at this
    simp only [Option.bind_some, Bool.not_true, cond_false, this, changeR]
    cases chg l w a with
    | some x => rfl
    | none => rfl
  · simp at b1
theorem Change_end (n : Int) (l : List Offer) (w : List Int) (a : Int) (hw : w.length ≤ 40) : ∃ r, m_rate_Change n l w a = some r ∧ (r.2 ≠ 0 → r.1 = 0) ∧ (r.2 = 0 → ofCode n l = 0 ∧ w.length ≤ 20 ∧ (0 ≤ a ∧ a ≤ 1099511627776) ∧ (w = [] ∨ ∃ v u, Path l v w u) ∧ chg l w a = some r.1) := by
  by_cases h0 : ofCode n l = 0
  · have hm := MarketOk.of h0
    by_cases hc : w.length ≤ 20 ∧ 0 ≤ a ∧ a ≤ 1099511627776
    · obtain ⟨b, b1, b2⟩ := refWalk_eq l w (by omega)
      by_cases hp : w = [] ∨ ∃ v u, Path l v w u
      · refine ⟨_, Change_ok hm h0 hc.1 hc.2 hp, ?_, ?_⟩
        · unfold changeR
          cases chg l w a with
          | some x => exact fun h => absurd rfl h
          | none => exact fun _ => rfl
        · unfold changeR
          cases hx : chg l w a with
          | some x => exact fun _ => ⟨h0, hc.1, hc.2, hp, rfl⟩
          | none => exact fun h => absurd h (by decide)
      · have hb : b = false := by
          cases b with
          | false => rfl
          | true => exact absurd (b2.1 rfl) hp
        subst hb
        obtain ⟨y, z, h1, h2, h3⟩ := follow_walk n l w h0 (by omega) _ 0 ⟨1, 1⟩ [] rfl (by omega) (by simp) (by simp) (by simp) ⟨by simp, fun _ => rfl⟩
        rw [m_cocketref01_Walk, h2] at b1
        have hcd : ((decide (20 < (w.length : Int)) || decide (a < 0)) || decide (1099511627776 < a)) = false := by
          simp only [Bool.or_eq_false_iff, decide_eq_false_iff_not]; omega
        rw [m_rate_Change, of_eq, if_pos h0]
        simp only [Option.bind_some, not_true_eq_false, decide_false, cond_false, hcd, m_rate_market_follow, h1]
        rcases h3 with ⟨⟨p, rfl⟩, rfl, hin⟩ | ⟨⟨p, q, rfl⟩, rfl⟩
        · simp at b1
        · exact ⟨(0, 2), rfl, fun _ => rfl, fun h => absurd h (by decide)⟩
    · have hcd : ((decide (20 < (w.length : Int)) || decide (a < 0)) || decide (1099511627776 < a)) = true := by
        simp only [Bool.or_eq_true, decide_eq_true_eq]; omega
      rw [m_rate_Change, of_eq, if_pos h0]
      simp only [Option.bind_some, not_true_eq_false, decide_false, cond_false, hcd, cond_true]
      exact ⟨(0, 2), rfl, fun _ => rfl, fun h => absurd h (by decide)⟩
  · rw [m_rate_Change, of_eq, if_neg h0]
    simp only [Option.bind_some, decide_eq_true (show ¬ ofCode n l = 0 from h0), cond_true]
    exact ⟨_, rfl, fun _ => rfl, fun h => absurd h h0⟩
theorem int_rat (a : Int) : (a : Rat) = Rat.divInt a 1 := (Rat.num_divInt_den (a : Rat)).symm
theorem chg_le {n : Int} {l : List Offer} (hm : MarketOk ⟨n, l⟩) : ∀ (p : List Int) (a x : Int), 0 ≤ a ∧ a ≤ 1099511627776 → chg l p a = some x → (x : Rat) ≤ rtp l p * (a : Rat)
  | [], a, x, ha, h => by
    have e : a = x := Option.some.inj h
    subst e
    rw [rtp, Rat.one_mul]; exact Rat.le_refl
  | i :: p, a, x, ha, h => by
    rw [chg] at h
    cases ho : idx l i with
    | none => rw [ho] at h; cases h
    | some o =>
      rw [ho] at h
      dsimp only at h
      have hok := hm.good o (idx_mem ho)
      have hr := rateO_ok hok
      have hok2 := hok
      simp only [offerOk, goodOffer, Bool.and_eq_true, decide_eq_true_eq] at hok2
      split at h
      · cases h
      · have h0 : 0 ≤ a * o.Num / o.Den := Int.ediv_nonneg (Int.mul_nonneg ha.1 (by omega)) (by omega)
        have ih := chg_le hm p (a * o.Num / o.Den) x ⟨h0, by omega⟩ h
        have hstep : ((a * o.Num / o.Den : Int) : Rat) ≤ toRat (rateO o) * (a : Rat) := by
          have e2 : toRat (rateO o) = Rat.divInt o.Num o.Den := toRat_ratioN (by omega) (by omega)
          have e3 : ((a * o.Num / o.Den : Int) : Rat) = Rat.divInt (a * o.Num / o.Den) 1 := int_rat _
          have e4 : (a : Rat) = Rat.divInt a 1 := int_rat a
          rw [e2, e3, e4, Rat.divInt_mul_divInt]
          refine Rat.not_lt.1 fun hlt => ?_
          have := (divInt_lt_iff (show (1 : Int) ≤ o.Den * 1 by omega) (show (1 : Int) ≤ 1 by decide)).1 hlt
          have hd := Int.ediv_mul_le (a * o.Num) (show o.Den ≠ 0 by omega)
          rw [Int.mul_one, Int.mul_one, Int.mul_comm o.Num a] at this
          omega
        rw [rtp, rtI, ho]
        refine Rat.le_trans ih ?_
        have := Rat.mul_le_mul_of_nonneg_left hstep (Rat.le_of_lt (rtp_pos hm.good p))
        rw [Rat.mul_comm (toRat (rateO o)) (rtp l p), Rat.mul_assoc]
        exact this
theorem chg_one {n : Int} {l : List Offer} (hm : MarketOk ⟨n, l⟩) (h0 : ofCode n l = 0) {i : Int} {o : Offer} (ho : idx l i = some o) {a y : Int} (ha : 0 ≤ a ∧ a ≤ 1099511627776) (h : chg l [i] a = some y) : m_rate_Change n l [i] a = some (y, 0) := by
  rw [Change_ok hm h0 (by simp) ha (.inr ⟨o.From, o.To, (show Path l o.From [i] o.To from ⟨o, ho, rfl, rfl⟩)⟩), changeR, h]
theorem pow50_20 {k : Nat} (h : k ≤ 20) : (50 : Int) ^ k ≤ 10000 ^ 20 := by
  have h1 := pow50_le h
  have h2 : (50 : Int) ^ 20 ≤ 10000 ^ 20 := by decide
  omega
theorem rounding_l1 {n : Int} {l : List Offer} (hm : MarketOk ⟨n, l⟩) (h0 : ofCode n l = 0) {w : List Int} (hw : w.length ≤ 20) (hin : ∀ i ∈ w, ∃ o, idx l i = some o) {a x : Int} (ha : 0 ≤ a ∧ a ≤ 1099511627776) (hx : chg l w a = some x) : ∀ (B A : List Int) (now : Int) (q : Q) (c : Ratio), w = A ++ B → chg l A a = some now → IsQ q c → RatOk c (50 ^ A.length) → toRat c = rtp l A →
    ∃ q' c', iter (m_cocketlaw01_RateRounding_l1 n l w) (now, (A.length : Int), q) = some (.inl (x, q')) ∧ IsQ q' c' ∧ RatOk c' (50 ^ w.length) ∧ toRat c' = rtp l w
  | [], A, now, q, c, hA, hnow, hq, hc, hr => by
    rw [List.append_nil] at hA
    subst hA
    rw [hx] at hnow; cases hnow
    refine ⟨q, c, iter_done ?_, hq, hc, hr⟩
    rw [m_cocketlaw01_RateRounding_l1, decide_eq_false (by omega)]; rfl
  | b :: B, A, now, q, c, hA, hnow, hq, hc, hr => by
    have hl : w.length = A.length + (B.length + 1) := by rw [hA]; simp
    have e1 := idx_app_at hA
    obtain ⟨o, o1⟩ := hin b (by rw [hA]; simp)
    have hok := hm.good o (idx_mem o1)
    have hro := rateO_ok hok
    have hok2 := hok
    simp only [offerOk, goodOffer, Bool.and_eq_true, decide_eq_true_eq] at hok2
    have hnb := chg_bounds hm A a now ha hnow
    -- the step that the whole made, too
    have hsome : ∃ y, chg l [b] now = some y := by
      have hx2 := hx
      rw [hA, chg_app, hnow, Option.bind_some, show b :: B = [b] ++ B from rfl, chg_app] at hx2
      obtain ⟨y, y1, _⟩ := bind_some hx2
      exact ⟨y, y1⟩
    obtain ⟨y, hy⟩ := hsome
    obtain ⟨q1, f1, f2⟩ := Frac_eq (n := o.Num) (d := o.Den) (by omega) (by omega)
    have hk := pow50_20 (show A.length ≤ 20 by omega)
    have h40 : (10000 : Int) ^ 20 < 10000 ^ 40 := by decide
    have h50 : (50 : Int) ≤ 10000 ^ 20 := by decide
    obtain ⟨q2, m1, m2⟩ := Mul_eq (q := rateO o) hq f2 (hc.le hk) (hro.le h50) h40
    obtain ⟨q', c', g1, g2⟩ := rounding_l1 hm h0 hw hin ha hx B (A ++ [b]) y q2 (mulN c (rateO o)) (by rw [hA]; simp) (by rw [chg_app, hnow]; exact hy) m2 (by rw [List.length_append, List.length_singleton, Int.pow_succ]; exact mulN_ok hc hro) (by rw [toRat_mulN hc.n1 hc.d1 hro.n1 hro.d1, rtp_app, hr, rtp, rtp, rtI, o1, Rat.mul_one])
    refine ⟨q', c', iter_step (s' := (y, ((A ++ [b]).length : Int), q2)) ?_ g1, g2⟩
    rw [m_cocketlaw01_RateRounding_l1, decide_eq_true (by omega)]
    simp only [cond_true, e1, o1, Option.bind_some, f1, m1, chg_one hm h0 o1 hnb hy, not_true_eq_false, decide_false, cond_false]
    rw [wrap_i64_eq (by omega)]
    simp
end Go.Pv

set_option linter.unusedSimpArgs false
set_option linter.unusedVariables false
namespace Go.Pv
structure Rat0 (r : Ratio) (m : Int) : Prop where
  n0 : 0 ≤ r.Num
  n2 : r.Num ≤ m
  d1 : 1 ≤ r.Den
  d2 : r.Den ≤ m
theorem RatOk.zero {r : Ratio} {m : Int} (h : RatOk r m) : Rat0 r m := ⟨by have := h.n1; omega, h.n2, h.d1, h.d2⟩
theorem Rat0.le {r : Ratio} {m k : Int} (h : Rat0 r m) (hk : m ≤ k) : Rat0 r k := ⟨h.n0, by have := h.n2; omega, h.d1, by have := h.d2; omega⟩
theorem ratio0_ok {a b m : Int} (ha : 0 ≤ a ∧ a ≤ m) (hb : 1 ≤ b ∧ b ≤ m) : Rat0 (ratioN a b) m ∧ toRat (ratioN a b) = Rat.divInt a b := by
  have hg : 0 < Int.gcd a b := Int.gcd_pos_of_ne_zero_right _ (by omega)
  have e1 : a / (Int.gcd a b : Int) * (Int.gcd a b : Int) = a := Int.ediv_mul_cancel (Int.gcd_dvd_left _ _)
  have e2 : b / (Int.gcd a b : Int) * (Int.gcd a b : Int) = b := Int.ediv_mul_cancel (Int.gcd_dvd_right _ _)
  have h1 : 0 ≤ a / (Int.gcd a b : Int) := Int.ediv_nonneg ha.1 (by omega)
  have h2 : a / (Int.gcd a b : Int) ≤ a := Int.ediv_le_self _ ha.1
  have h3 : b / (Int.gcd a b : Int) ≤ b := Int.ediv_le_self _ (by omega)
  have h4 : 1 ≤ b / (Int.gcd a b : Int) := by
    have h5 : 0 ≤ b / (Int.gcd a b : Int) := Int.ediv_nonneg (by omega) (by omega)
    rcases Int.lt_or_eq_of_le h5 with h | h
    · omega
    · rw [← h] at e2; omega
  refine ⟨⟨h1, by show a / (Int.gcd a b : Int) ≤ m; omega, h4, by show b / (Int.gcd a b : Int) ≤ m; omega⟩, ?_⟩
  show Rat.divInt (a / (Int.gcd a b : Int)) (b / (Int.gcd a b : Int)) = _
  have := Rat.divInt_mul_right (n := a / (Int.gcd a b : Int)) (d := b / (Int.gcd a b : Int)) (a := (Int.gcd a b : Int)) (by omega)
  rw [e1, e2] at this
  exact this.symm
theorem Frac_eq0 {n d : Int} (hn : 0 ≤ n ∧ n ≤ 9223372036854775807) (hd : 1 ≤ d ∧ d ≤ 9223372036854775807) : ∃ q, m_cocketref01_Frac n d = some q ∧ IsQ q (ratioN n d) := by
  obtain ⟨a, h1, h2⟩ := Of_eq (n := n) hn
  obtain ⟨b, h3, h4⟩ := Of_eq (n := d) ⟨by omega, hd.2⟩
  obtain ⟨q, h5, h6⟩ := lowest_eq h2 h4 (lt40_100 (small_of hn.2)) (lt40_100 (small_of hd.2)) (by omega)
  refine ⟨q, ?_, h6⟩
  rw [m_cocketref01_Frac, h1, h3]
  simp only [Option.bind_some, h5]
theorem mul40 {x y m : Int} (hm : m < 10000 ^ 40) (a1 : 0 ≤ x) (a2 : x ≤ m) (a3 : 0 ≤ y) (a4 : y ≤ m) : x * y < 10000 ^ 100 := by
  have := Int.mul_lt_mul' (show x ≤ (10000 : Int) ^ 40 by omega) (show y < (10000 : Int) ^ 40 by omega) a3 (pow_pos' 40)
  rw [← Int.pow_add] at this
  have h80 : (10000 : Int) ^ (40 + 40) ≤ 10000 ^ 100 := pow_le_pow (by decide)
  omega
theorem Mul_eq0 {a b : Q} {p q : Ratio} {m : Int} (ha : IsQ a p) (hb : IsQ b q) (hp : Rat0 p m) (hq : Rat0 q m) (hm : m < 10000 ^ 40) : ∃ r, m_cocketref01_Mul a b = some r ∧ IsQ r (mulN p q) ∧ Rat0 (mulN p q) (m * m) ∧ toRat (mulN p q) = toRat p * toRat q := by
  have p1 := hp.n0; have p2 := hp.d1; have q1 := hq.n0; have q2 := hq.d1
  obtain ⟨u, h1, h2⟩ := Times_eq ha.num hb.num (by have := hp.n2; omega) (by have := hq.n2; omega)
  obtain ⟨v, h3, h4⟩ := Times_eq ha.den hb.den (by have := hp.d2; omega) (by have := hq.d2; omega)
  have hd := mul_pos1 p2 q2
  obtain ⟨r, h5, h6⟩ := lowest_eq h2 h4 (mul40 hm p1 hp.n2 q1 hq.n2) (mul40 hm (by omega) hp.d2 (by omega) hq.d2) (by omega)
  have m1 := mul_bounds (x := p.Num) (y := q.Num) (a := m) (b := m) ⟨p1, hp.n2⟩ ⟨q1, hq.n2⟩
  have m2 := mul_bounds (x := p.Den) (y := q.Den) (a := m) (b := m) ⟨by omega, hp.d2⟩ ⟨by omega, hq.d2⟩
  obtain ⟨k1, k2⟩ := ratio0_ok (a := p.Num * q.Num) (b := p.Den * q.Den) (m := m * m) m1 ⟨hd, m2.2⟩
  refine ⟨r, ?_, h6, k1, ?_⟩
  · rw [m_cocketref01_Mul, h1, h3]
    simp only [Option.bind_some, h5]
  · rw [mulN, k2, toRat, toRat, Rat.divInt_mul_divInt]
theorem Cmp_eq0 {a b : Q} {p q : Ratio} {m : Int} (ha : IsQ a p) (hb : IsQ b q) (hp : Rat0 p m) (hq : Rat0 q m) (hm : m < 10000 ^ 40) : ∃ s, m_cocketref01_Cmp a b = some s ∧ (0 < s ↔ toRat q < toRat p) := by
  have p1 := hp.n0; have p2 := hp.d1; have q1 := hq.n0; have q2 := hq.d1
  obtain ⟨u, h1, h2⟩ := Times_eq ha.num hb.den (by have := hp.n2; omega) (by have := hq.d2; omega)
  obtain ⟨v, h3, h4⟩ := Times_eq hb.num ha.den (by have := hq.n2; omega) (by have := hp.d2; omega)
  have l1 := h2.len (mul40 hm p1 hp.n2 (by omega) hq.d2)
  have l2 := h4.len (mul40 hm q1 hq.n2 (by omega) hp.d2)
  refine ⟨sgn (p.Num * q.Den - q.Num * p.Den), ?_, ?_⟩
  · rw [m_cocketref01_Cmp, h1, h3]
    simp only [Option.bind_some]
    rw [m_cocketref01_Compare, h2.pos, h4.pos, cmpD_eq h2.can h4.can (by omega) (by omega), h2.val, h4.val]
    rfl
  · rw [sgn_pos, toRat_lt hq.d1 hp.d1]; omega
theorem RateRounding_law (n : Int) (l : List Offer) (w : List Int) (a : Int) : m_cocketlaw01_RateRounding n l w a = some true := by
  rw [m_cocketlaw01_RateRounding, m_cocketlaw01_few]
  simp only [Option.bind_some, alive_true]
  rcases Bool.eq_false_or_eq_true ((!decide ((l.length : Int) ≤ 60)) || (decide (40 < (w.length : Int)))) with h | h
  · rw [h]; rfl
  · rw [h]
    simp only [Bool.or_eq_false_iff, decide_eq_false_iff_not] at h
    obtain ⟨r, r1, r2, r3⟩ := Change_end n l w a (by omega)
    rw [r1]
    simp only [cond_false, Option.bind_some]
    by_cases hr : r.2 = 0
    · obtain ⟨h0, hw, ha, hp, hx⟩ := r3 hr
      have hm := MarketOk.of h0
      have hin : ∀ i ∈ w, ∃ o, idx l i = some o := fun i hi => by
        rcases hp with h | ⟨v, u, h⟩
        · rw [h] at hi; simp at hi
        · exact path_idx h i hi
      obtain ⟨q1, f1, f2⟩ := Frac_eq (n := 1) (d := 1) (by decide) (by decide)
      have e11 : ratioN 1 1 = ⟨1, 1⟩ := by decide
      rw [e11] at f2
      obtain ⟨q', c', g1, g2, g3, g4⟩ := rounding_l1 hm h0 hw hin ha hx w [] a q1 ⟨1, 1⟩ rfl rfl f2 (by simpa using ratOk_one) (by rw [toRat_one]; rfl)
      rw [show ((([] : List Int).length : Nat) : Int) = 0 from rfl] at g1
      have hxb := chg_bounds hm w a r.1 ha hx
      have hle := chg_le hm w a r.1 ha hx
      obtain ⟨qx, x1, x2⟩ := Frac_eq0 (n := r.1) (d := 1) (by omega) (by decide)
      obtain ⟨qa, a1, a2⟩ := Frac_eq0 (n := a) (d := 1) (by omega) (by decide)
      obtain ⟨x3, x4⟩ := ratio0_ok (a := r.1) (b := 1) (m := 1099511627776) hxb (by decide)
      obtain ⟨a3, a4⟩ := ratio0_ok (a := a) (b := 1) (m := 1099511627776) ha (by decide)
      have hk := pow50_20 hw
      have h41 : (1099511627776 : Int) ≤ 10000 ^ 19 := by decide
      have h19 : (10000 : Int) ^ 19 ≤ 10000 ^ 20 := by decide
      have hd : (10000 : Int) ^ 20 * 10000 ^ 20 = 10000 ^ 40 := by decide
      have hk19 : (50 : Int) ^ w.length ≤ 10000 ^ 19 := by
        have h1 := pow50_le hw
        have h2 : (50 : Int) ^ 20 ≤ 10000 ^ 19 := by decide
        omega
      have hlt19 : (10000 : Int) ^ 19 < 10000 ^ 40 := by decide
      have hlt38 : (10000 : Int) ^ 19 * 10000 ^ 19 < 10000 ^ 40 := by decide
      have hle38 : (1099511627776 : Int) ≤ 10000 ^ 19 * 10000 ^ 19 := by decide
      obtain ⟨qm, m1, m2, m3, m4⟩ := Mul_eq0 g2 a2 (g3.zero.le hk19) (a3.le h41) hlt19
      obtain ⟨s, s1, s2⟩ := Cmp_eq0 x2 m2 (x3.le hle38) m3 hlt38
      rw [m4, x4, a4, ← int_rat, ← int_rat, g4] at s2
      have hs : ¬ 0 < s := fun hlt => absurd hle (Rat.not_le.2 (s2.1 hlt))
      obtain ⟨gn, n1, n2, _⟩ := Gains_eq n l w (by omega)
      rw [h0] at n2
      simp only [hr, not_true_eq_false, decide_false, cond_false, f1, Option.bind_some, g1, decide_eq_false (show ¬ r.1 < 0 by omega), x1, a1, m1, s1, decide_eq_false hs, n1, n2, decide_true, cond_true]
      rcases Bool.eq_false_or_eq_true gn.1 with hgn | hgn
      · simp only [hgn, Bool.not_true, cond_false]
      · simp only [hgn, Bool.not_false, cond_true]
        by_cases hwe : w = []
        · subst hwe; simp
        · have hpos : (0 : Int) < (w.length : Int) := by
            have := List.length_pos_iff.2 hwe; omega
          obtain ⟨i0, k1, _, _, k2⟩ := idx_lt (l := w) (i := 0) (by omega) hpos
          obtain ⟨i1, k3, _, _, k4⟩ := idx_lt (l := w) (i := (w.length : Int) - 1) (by omega) (by omega)
          obtain ⟨o0, k5⟩ := hin i0 k2
          obtain ⟨o1, k6⟩ := hin i1 k4
          simp only [decide_eq_true hpos, cond_true, k1, k5, Option.bind_some]
          rw [wrap_i64_eq (by omega)]
          simp only [k3, k6, Option.bind_some]
          by_cases hft : o0.From = o1.To
          · obtain ⟨t, t1, t2⟩ := Cmp_eq0 g2 f2 (g3.zero.le hk19) ((ratOk_one' (m := 10000 ^ 19) (by decide)).zero) hlt19
            rw [toRat_one, g4] at t2
            simp only [decide_eq_true hft, cond_true, t1, Option.bind_some]
            by_cases ht : t ≤ 0
            · have hq1 : rtp l w ≤ 1 := Rat.not_lt.1 fun hlt => by have := t2.2 hlt; omega
              have hxa : ¬ a < r.1 := fun hlt => by
                have h1 : (a : Rat) < (r.1 : Rat) := Rat.intCast_lt_intCast.2 hlt
                have h2 := Rat.mul_le_mul_of_nonneg_right hq1 (show (0 : Rat) ≤ (a : Rat) from Rat.intCast_nonneg.2 ha.1)
                rw [Rat.one_mul] at h2
                exact absurd (Rat.le_trans hle h2) (Rat.not_le.2 h1)
              simp only [decide_eq_true ht, cond_true, decide_eq_false hxa, cond_false]
            · simp only [decide_eq_false ht, cond_false]
          · simp only [decide_eq_false hft, cond_false]
    · simp [hr, r2 hr]
end Go.Pv

namespace Go.Pv.Tryd
open Go.Proofs Go.Pv
theorem m_cocketlaw01_few_ok (l1 : (List Offer)) (r : Bool) (h : m_cocketlaw01_few l1 = some r) : PureFn Tryd.prog G 17 [.d (.imm 4 (lenc Offer.pd l1))] (.d (.bool r)) := by
 unfold m_cocketlaw01_few at h
 refine pf Tryd.func17 Tryd.ntmps17 ?_
 refine sg fun K k => ?_
 refine oo ?_
 refine AOps.nil (k _ ?_)
 refine sg fun K k => ?_
 iterate 4 refine oo ?_
 refine AOps.nil (k _ ?_)
 refine AWp.ret ?_
 cases h; exact rt
end Go.Pv.Tryd

namespace Go.Pv.Tryd
open Go.Proofs Go.Pv
theorem m_cocketlaw01_ring_ok (r : (List Offer)) (h : m_cocketlaw01_ring = some r) : RowFn Tryd.prog G 48 [] 43 4 (lenc Offer.pd r) := by
 unfold m_cocketlaw01_ring at h
 refine Fn.pf Tryd.func48 Tryd.ntmps48 ?_
 refine sg fun K k => ?_
 refine oo ?_
 refine AOps.nil (k _ ?_)
 refine sg fun K k => ?_
 iterate 5 refine oo ?_
 refine AOps.nil (k _ ?_)
 refine AWp.ret ?_
 cases h; exact rtRow
end Go.Pv.Tryd

namespace Go.Pv.Tryd
open Go.Proofs Go.Pv
theorem m_rate_market_has_ok (m1 : Market) (c1 : Int) (r : Bool) (h : m_rate_market_has m1 c1 = some r) : PureFn Tryd.prog G 53 [.d (.agg [(.int .i64 m1.n), (.imm 4 (lenc Offer.pd m1.offers))]), .d (.int .i64 c1)] (.d (.bool r)) := by
 unfold m_rate_market_has at h
 refine pf Tryd.func53 Tryd.ntmps53 ?_
 refine sg fun K k => ?_
 iterate 2 refine oo ?_
 refine AOps.nil (k _ ?_)
 refine sg fun K k => ?_
 iterate 3 refine oo ?_
 refine ct 5 [4] [] (fun  t => (12, .d (.bool ((decide (0 ≤ c1)) && (decide (c1 < m1.n))))) :: t) ?_ ?_
 ·rcases bt (decide (0 ≤ c1)) with hg_2 | hg_2
  ·rw [hg_2]
   iterate 5 refine oo ?_
   refine AOps.nil ?_
   exact sb
  ·rw [hg_2]
   iterate 5 refine oo ?_
   refine AOps.nil ?_
   exact sb
 refine oo ?_
 refine AOps.nil (k _ ?_)
 refine AWp.ret ?_
 cases h; exact rt
end Go.Pv.Tryd

namespace Go.Pv.Tryd
open Go.Proofs Go.Pv
theorem m_rate_of_1_ok (v1 : Int) (r : Bool) (h : m_rate_of_1 v1 = some r) : PureFn Tryd.prog G 79 [.d (.int .i64 v1)] (.d (.bool r)) := by
 unfold m_rate_of_1 at h
 refine pf Tryd.func79 Tryd.ntmps79 ?_
 refine sg fun K k => ?_
 refine oo ?_
 refine AOps.nil (k _ ?_)
 refine sg fun K k => ?_
 iterate 3 refine oo ?_
 refine ct 3 [2] [] (fun  t => (8, .d (.bool ((decide (1 ≤ v1)) && (decide (v1 ≤ 50))))) :: t) ?_ ?_
 ·rcases bt (decide (1 ≤ v1)) with hg_2 | hg_2
  ·rw [hg_2]
   iterate 3 refine oo ?_
   refine AOps.nil ?_
   exact sb
  ·rw [hg_2]
   iterate 3 refine oo ?_
   refine AOps.nil ?_
   exact sb
 refine oo ?_
 refine AOps.nil (k _ ?_)
 refine AWp.ret ?_
 cases h; exact rt
end Go.Pv.Tryd

namespace Go.Pv.Tryd
open Go.Proofs Go.Pv
theorem m_rate_of_ok (n1 : Int) (offers1 : (List Offer)) (r : (Market × Int)) (h : m_rate_of n1 offers1 = some r) : PureFn Tryd.prog G 52 [.d (.int .i64 n1), .d (.imm 4 (lenc Offer.pd offers1))] (.tuple [.d (.agg [(.int .i64 r.1.n), (.imm 4 (lenc Offer.pd r.1.offers))]), .d (.int .i64 r.2)]) := by
 unfold m_rate_of at h
 refine pf Tryd.func52 Tryd.ntmps52 ?_
 refine sg fun K k => ?_
 iterate 2 refine oo ?_
 refine AOps.nil (k _ ?_)
 refine AWp.seq fun _ K_1 => ?_
 refine AWp.block ?_
 refine sg fun K k => ?_
 iterate 3 refine oo ?_
 refine ct 3 [0, 1, 4] [1000] (fun  t => (16, .d (.bool ((decide (n1 < 2)) || (decide (6 < n1))))) :: t) ?_ ?_
 ·rcases bt (decide (n1 < 2)) with hg_3 | hg_3
  ·rw [hg_3]
   iterate 3 refine oo ?_
   refine AOps.nil ?_
   exact sb
  ·rw [hg_3]
   iterate 3 refine oo ?_
   refine AOps.nil ?_
   exact sb
 refine oo ?_
 refine AOps.nil (k _ ?_)
 refine cd h (fun h => ?_) (fun h => ?_)
 ·refine sg fun K k => ?_
  iterate 3 refine oo ?_
  refine AOps.nil (k _ ?_)
  refine AWp.ret ?_
  cases h; exact rt
 ·refine sg fun K k => ?_
  iterate 4 refine oo ?_
  refine AOps.nil (k _ ?_)
  refine cd h (fun h => ?_) (fun h => ?_)
  ·refine sg fun K k => ?_
   iterate 3 refine oo ?_
   refine AOps.nil (k _ ?_)
   refine AWp.ret ?_
   cases h; exact rt
  ·refine AWp.skip ?_
   refine K_1 _ ?_
   refine sg fun K k => ?_
   iterate 5 refine oo ?_
   refine AOps.nil (k _ ?_)
   refine sg fun K k => ?_
   refine oo ?_
   refine AOps.nil (k _ ?_)
   refine jm (ι := Market) [6] [1001] (fun i t => (4, .ptr 1000 0 0) :: t) (fun i t => (1000, ⟨77, 2, [.d (.agg [(.int .i64 i.n), (.imm 4 (lenc Offer.pd i.offers))])]⟩) :: t) .inl h ?_ ?_
   ·intro _ hj_7 h
    refine sg fun K k => ?_
    iterate 3 refine oo ?_
    refine AOps.nil (k _ ?_)
    refine AWp.block ?_
    obtain ⟨x_12, hl_9, h2_10⟩ := bind_some hj_7
    refine lp (S := (Int × Market)) [6, 7, 26, 27] [1001] (fun i t => (4, .ptr 1000 0 0) :: (28, .d (.int .i64 i.1)) :: t) (fun i t => (1000, ⟨77, 2, [.d (.agg [(.int .i64 i.2.n), (.imm 4 (lenc Offer.pd i.2.offers))])]⟩) :: t) hl_9 ?_ ?_; exact sch; clear hl_9
    rintro ⟨v1, c2⟩ _ hb_11; unfold m_rate_of_l1 at hb_11; try dsimp only at hb_11
    try dsimp only
    refine sg fun K k => ?_
    refine oo ?_
    refine AOps.nil (k _ ?_)
    refine AWp.seq fun _ K_14 => ?_
    refine cd hb_11 (fun hb_11 => ?_) (fun hb_11 => ?_)
    ·refine AWp.skip ?_
     refine K_14 _ ?_
     refine AWp.seq fun _ K_16 => ?_
     refine AWp.block ?_
     refine sg fun K k => ?_
     obtain ⟨e1, ⟨f_17, f_18, f_19, f_20⟩, hb_11⟩ := idx_bind hb_11
     refine oo ?_
     refine oo ?_ (by intro K k; simp (disch := omega) only [go_sem, f_19, ↓reduceIte]; exact k)
     iterate 2 refine oo ?_
     refine AOps.nil (k _ ?_)
     refine sg fun K k => ?_
     iterate 3 refine oo ?_
     obtain ⟨r1, hx_21, hb_11⟩ := bind_some hb_11
     refine cl (m_rate_market_has_ok (⟨n1, offers1⟩ : Market) e1.From _ hx_21) ?_
     iterate 2 refine oo ?_
     obtain ⟨b1, hc_22, hb_11⟩ := bind_some hb_11
     refine ct 6 [4, 6, 7, 9, 26, 27, 28] [1000, 1001, 1002] (fun  t => (43, .d (.bool b1)) :: t) ?_ ?_
     ·rcases bt (!r1) with hg_24 | hg_24
      ·rw [hg_24]
       rw [hg_24, cond_true] at hc_22
       iterate 6 refine oo ?_
       refine AOps.nil ?_
       cases hc_22
       exact sb
      ·rw [hg_24]
       rw [hg_24, cond_false] at hc_22
       iterate 3 refine oo ?_
       obtain ⟨r2, hx_23, hc_22⟩ := bind_some hc_22
       refine cl (m_rate_market_has_ok (⟨n1, offers1⟩ : Market) e1.To _ hx_23) ?_
       iterate 2 refine oo ?_
       refine AOps.nil ?_
       cases hc_22
       exact sb
     refine oo ?_
     refine ct 6 [4, 6, 7, 9, 26, 27, 28] [1000, 1001, 1002] (fun  t => (50, .d (.bool (b1 || (decide (e1.From = e1.To))))) :: t) ?_ ?_
     ·rcases bt b1 with hg_26 | hg_26
      ·rw [hg_26]
       iterate 6 refine oo ?_
       refine AOps.nil ?_
       exact sb
      ·rw [hg_26]
       iterate 6 refine oo ?_
       refine AOps.nil ?_
       exact sb
     refine oo ?_
     obtain ⟨b2, hc_27, hb_11⟩ := bind_some hb_11
     refine ct 6 [4, 6, 7, 9, 26, 27, 28] [1000, 1001, 1002] (fun  t => (57, .d (.bool b2)) :: t) ?_ ?_
     ·rcases bt (b1 || (decide (e1.From = e1.To))) with hg_29 | hg_29
      ·rw [hg_29]
       rw [hg_29, cond_true] at hc_27
       iterate 6 refine oo ?_
       refine AOps.nil ?_
       cases hc_27
       exact sb
      ·rw [hg_29]
       rw [hg_29, cond_false] at hc_27
       iterate 3 refine oo ?_
       obtain ⟨r3, hx_28, hc_27⟩ := bind_some hc_27
       refine clV (m_rate_of_1_ok e1.Num _ hx_28) ?_
       iterate 2 refine oo ?_
       refine AOps.nil ?_
       cases hc_27
       exact sb
     refine oo ?_
     obtain ⟨b3, hc_30, hb_11⟩ := bind_some hb_11
     refine ct 6 [4, 6, 7, 26, 27, 28] [1000, 1001] (fun  t => (64, .d (.bool b3)) :: t) ?_ ?_
     ·rcases bt b2 with hg_32 | hg_32
      ·rw [hg_32]
       rw [hg_32, cond_true] at hc_30
       iterate 6 refine oo ?_
       refine AOps.nil ?_
       cases hc_30
       exact sb
      ·rw [hg_32]
       rw [hg_32, cond_false] at hc_30
       iterate 3 refine oo ?_
       obtain ⟨r4, hx_31, hc_30⟩ := bind_some hc_30
       refine clV (m_rate_of_1_ok e1.Den _ hx_31) ?_
       iterate 2 refine oo ?_
       refine AOps.nil ?_
       cases hc_30
       exact sb
     refine AOps.nil (k _ ?_)
     refine cd hb_11 (fun hb_11 => ?_) (fun hb_11 => ?_)
     ·refine sg fun K k => ?_
      iterate 3 refine oo ?_
      refine AOps.nil (k _ ?_)
      refine AWp.ret ?_
      refine lx hb_11 fun hx => ?_; cases hx; try dsimp only at h2_10
      cases h2_10; try dsimp only at h
      cases h; exact rt
     ·refine AWp.skip ?_
      refine K_16 _ ?_
      refine AWp.reg ?_
      iterate 2 refine oo ?_
      refine AOps.nil ?_
      exact ln hb_11 sb
    ·refine AWp.exit ?_
     refine lx hb_11 fun hx => ?_; cases hx; try dsimp only at h2_10
     exact ln h2_10 sb
   ·rintro c1 h; dsimp only at h ⊢
    refine sg fun K k => ?_
    iterate 3 refine oo ?_
    refine AOps.nil (k _ ?_)
    refine AWp.ret ?_
    cases h; exact rt
end Go.Pv.Tryd

namespace Go.Pv.Tryd
open Go.Proofs Go.Pv
theorem m_rate_gcd_ok (a1 : Int) (b1 : Int) (r : Int) (h : m_rate_gcd a1 b1 = some r) : PureFn Tryd.prog G 67 [.d (.int .i64 a1), .d (.int .i64 b1)] (.d (.int .i64 r)) := by
 unfold m_rate_gcd at h
 refine pf Tryd.func67 Tryd.ntmps67 ?_
 refine sg fun K k => ?_
 refine oo ?_
 refine AOps.nil (k _ ?_)
 refine jn (α := Int) [] [] (fun i t => (0, .d (.int .i64 i)) :: t) (fun i t => t) h ?_ ?_
 ·intro _ hj_2
  refine AWp.block ?_
  obtain ⟨x_7, hl_4, h2_5⟩ := bind_some hj_2
  refine lp (S := (Int × Int)) [] [] (fun i t => (0, .d (.int .i64 i.1)) :: (1, .d (.int .i64 i.2)) :: t) (fun i t => t) hl_4 ?_ ?_; exact sb; clear hl_4
  rintro ⟨a3, b2⟩ _ hb_6; unfold m_rate_gcd_l1 at hb_6; try dsimp only at hb_6
  try dsimp only
  refine AWp.seq fun _ K_9 => ?_
  refine sg fun K k => ?_
  iterate 2 refine oo ?_
  refine AOps.nil (k _ ?_)
  refine cd hb_6 (fun hb_6 => ?_) (fun hb_6 => ?_)
  ·refine AWp.skip ?_
   refine K_9 _ ?_
   refine AWp.block ?_
   refine AWp.draw mo [] trivial ?_
   obtain ⟨hg_11, hb_6⟩ := guardO_some hb_6
   iterate 6 refine dd ?_
   refine DOps.nil (by kernel_rfl) ?_
   exact ln hb_6 sb
  ·refine AWp.exit ?_
   refine lx hb_6 fun hx => ?_; cases hx; try dsimp only at h2_5
   cases h2_5; exact sb
 ·rintro a2 h; dsimp only at h ⊢
  refine sg fun K k => ?_
  iterate 2 refine oo ?_
  refine AOps.nil (k _ ?_)
  refine AWp.ret ?_
  cases h; exact rt
end Go.Pv.Tryd

namespace Go.Pv.Tryd
open Go.Proofs Go.Pv
theorem m_rate_ratio_ok (a1 : Int) (b1 : Int) (r : Ratio) (h : m_rate_ratio a1 b1 = some r) : PureFn Tryd.prog G 62 [.d (.int .i64 a1), .d (.int .i64 b1)] (.d (.agg [(.int .i64 r.Num), (.int .i64 r.Den)])) := by
 unfold m_rate_ratio at h
 refine pf Tryd.func62 Tryd.ntmps62 ?_
 refine sg fun K k => ?_
 refine oo ?_
 refine AOps.nil (k _ ?_)
 refine sg fun K k => ?_
 iterate 2 refine oo ?_
 obtain ⟨r1, hx_1, h⟩ := bind_some h
 refine cl (m_rate_gcd_ok a1 b1 _ hx_1) ?_
 refine oo ?_
 refine AOps.nil (k _ ?_)
 refine sd mo fun K k => ?_
 obtain ⟨hg_2, h⟩ := guardO_some h
 obtain ⟨hg_3, h⟩ := guardO_some h
 iterate 8 refine dd ?_
 refine DOps.nil (by kernel_rfl) (k _ ?_)
 refine AWp.ret ?_
 cases h; exact rt
end Go.Pv.Tryd

namespace Go.Pv.Tryd
open Go.Proofs Go.Pv
theorem m_rate_times_ok (a1 : Ratio) (b1 : Ratio) (r : Ratio) (h : m_rate_times a1 b1 = some r) : PureFn Tryd.prog G 59 [.d (.agg [(.int .i64 a1.Num), (.int .i64 a1.Den)]), .d (.agg [(.int .i64 b1.Num), (.int .i64 b1.Den)])] (.d (.agg [(.int .i64 r.Num), (.int .i64 r.Den)])) := by
 unfold m_rate_times at h
 refine pf Tryd.func59 Tryd.ntmps59 ?_
 refine sg fun K k => ?_
 iterate 3 refine oo ?_
 refine AOps.nil (k _ ?_)
 refine sd mo fun K k => ?_
 iterate 4 refine dd ?_
 obtain ⟨r1, hx_1, h⟩ := bind_some h
 refine dcl (m_rate_gcd_ok a1.Num b1.Den _ hx_1) ?_
 iterate 4 refine dd ?_
 obtain ⟨r2, hx_2, h⟩ := bind_some h
 refine dcl (m_rate_gcd_ok b1.Num a1.Den _ hx_2) ?_
 iterate 2 refine dd ?_
 refine DOps.nil (by kernel_rfl) (k _ ?_)
 refine sd mo fun K k => ?_
 obtain ⟨hg_3, h⟩ := guardO_some h
 obtain ⟨hg_4, h⟩ := guardO_some h
 obtain ⟨hg_5, h⟩ := guardO_some h
 obtain ⟨hg_6, h⟩ := guardO_some h
 iterate 20 refine dd ?_
 refine DOps.nil (by kernel_rfl) (k _ ?_)
 refine AWp.ret ?_
 cases h; exact rt
end Go.Pv.Tryd



set_option linter.unusedSimpArgs false
set_option linter.unusedVariables false
namespace Go.Pv.Tryd
open Go.Proofs Go.Pv
theorem clone_fn (l : List Int) (hl : l.length ≤ 1000) : RowFn Tryd.prog G 96 [.d (lstD 1 (lenc (PD.int .i64) l))] 3 1 (lenc (PD.int .i64) l) := by
  refine Fn.intro Tryd.func96 (by rfl) (by rw [Tryd.ntmps96]; simp) ?_
  rw [Tryd.ntmps96]
  simp only [argEnv, ↓reduceIte]
  refine AWp.seq fun K hK => AWp.reg ?_
  iterate 1 (refine AOps.consU fun K' hK' => ?_; simp (disch := omega) only [go_sem, ↓reduceIte]; refine hK' _ ?_; clear hK' K')
  refine AOps.nil ?_
  simp only [Post.then]
  refine hK _ ?_; clear hK K
  refine AWp.seq fun K hK => ?_
  refine AWp.seq fun K2 hK2 => AWp.reg ?_
  iterate 2 (refine AOps.consU fun K' hK' => ?_; simp (disch := omega) only [go_sem, ↓reduceIte]; refine hK' _ ?_; clear hK' K')
  refine AOps.nil ?_
  simp only [Post.then]
  refine hK2 _ ?_; clear hK2 K2
  refine AWp.cond (b := l.isEmpty) (by rfl) (fun hb => ?_) (fun hb => ?_)
  · have hl0 : l = [] := by simpa using hb
    subst hl0
    refine AWp.seq fun K2 hK2 => AWp.reg ?_
    iterate 1 (refine AOps.consU fun K' hK' => ?_; simp (disch := omega) only [go_sem, ↓reduceIte]; refine hK' _ ?_; clear hK' K')
    refine AOps.nil ?_
    simp only [Post.then]
    refine hK2 _ ?_; clear hK2 K2
    refine AWp.sub (Sub.void 2 3 1 1000 (by rfl) (by rfl) (by omega) (by omega)) ?_
    refine AWp.ret ?_
    simp only [Post.then, Post.inBlock, Go.Pv.Fin, Go.Pv.FinG]
    refine ⟨.slc 1000 0 0, ?_, by first | exact True.intro | rfl, by first | exact True.intro | rfl, by first | exact True.intro | rfl⟩
    simp only [go_sem, Tryd.results96, ↓reduceIte]
  · refine AWp.skip ?_
    simp only [Post.then, Post.inBlock]
    refine hK _ ?_; clear hK K
    refine AWp.seq fun K hK => AWp.reg ?_
    refine AOps.consU fun K' hK' => ?_; simp (disch := omega) only [go_sem, ↓reduceIte]; refine hK' _ ?_; clear hK' K'
    refine AOps.consU fun K' hK' => ?_; simp (disch := omega) only [go_sem, ↓reduceIte]; refine hK' _ ?_; clear hK' K'
    have e : lstD 1 (lenc (PD.int .i64) l) = .imm 1 (lenc (PD.int .i64) l) := by
      cases l with
      | nil => simp at hb
      | cons x l => rfl
    rw [e]
    iterate 2 (refine AOps.consU fun K' hK' => ?_; simp (disch := omega) only [go_sem, ↓reduceIte]; refine hK' _ ?_; clear hK' K')
    refine AOps.nil ?_
    simp only [Post.then]
    refine hK _ ?_; clear hK K
    refine AWp.ret ?_
    simp only [Post.then, Post.inBlock, Go.Pv.Fin, Go.Pv.FinG]
    refine ⟨.slc 1000 0 l.length, ?_, by first | exact True.intro | rfl, ?_, by first | exact True.intro | rfl⟩
    · simp only [go_sem, Tryd.results96, ↓reduceIte]
    · rw [lenc_length]
def capsOn (m : Market) (frm length : Int) (rounds : Bool) : List PV := [.dptr 1 [.int .i64 length] 0 0, .dptr 1 [.int .i64 frm] 0 0, .dptr 1 [.bool rounds] 0 0, .ptr 1 0 0, .ptr 2 0 0, .dptr 2 [Market.pd m] 0 0, .ptr 4 0 0]
def heapOn (m : Market) (frm length : Int) (rounds : Bool) (l n : Nat) (s : List Bool) : Heap :=
  [(1, ⟨127, 1, [.d (.fn (.yield l))]⟩), (2, ⟨128, 1, [.slc 3 0 n]⟩), (3, ⟨4, 1, dl (lenc PD.bool s)⟩), (4, ⟨127, 1, [.func (.func 94) (capsOn m frm length rounds)]⟩)]
theorem reset_fn (n : Nat) (s : List Bool) (w : Walk) (g : Gh) (hg : g.isSome = true) (hn : s.length = n) (h0 : 0 ≤ w.to ∧ w.to < n) :
    FnD Tryd.prog G 95 [.ptr 1 0 0, .ptr 2 0 0] [(1, ⟨128, 1, [.slc 3 0 n]⟩), (3, ⟨4, 1, dl (lenc PD.bool s)⟩), (2, ⟨83, 4, [.d w.pd]⟩)] g
      fun _ H' g' => H' = [(1, ⟨128, 1, [.slc 3 0 n]⟩), (3, ⟨4, 1, dl (lenc PD.bool (s.set w.to.toNat false))⟩), (2, ⟨83, 4, [.d w.pd]⟩)] ∧ g' = g := by
  refine FnD.intro Tryd.func95 (by rfl) (by rw [Tryd.ntmps95]; simp) ?_
  rw [Tryd.ntmps95]
  simp only [argEnv, ↓reduceIte, Nat.reduceAdd]
  have h1 : w.to.toNat < s.length := by omega
  have h2 : s[w.to.toNat]? = some s[w.to.toNat] := List.getElem?_eq_getElem h1
  refine AWp.reg ?_
  iterate 5 (refine AOps.consU fun K' hK' => ?_; simp (disch := omega) only [go_sem, h2, ↓reduceIte]; refine hK' _ ?_; clear hK' K')
  refine AOps.nil ?_
  show FinD _ _ _ _ _ _
  simp only [FinD]
  refine ⟨.tuple [], ?_, by first | exact True.intro | rfl, hg, by first | exact True.intro | rfl, by first | exact True.intro | rfl⟩
  simp only [go_sem, Tryd.results95, ↓reduceIte]
end Go.Pv.Tryd

set_option linter.unusedSimpArgs false
set_option linter.unusedVariables false
namespace Go.Pv.Tryd
open Go.Proofs Go.Pv
def OnPost (ys : List PD) (H : Heap) (l : Nat) (all xs : List PD) : PV → Heap → Gh → Prop := fun p H' g' =>
  H' = H ∧ ((p = .d (.bool true) ∧ g' = some (l, all, xs ++ ys, true)) ∨ ∃ part rest, ys = part ++ rest ∧ p = .d (.bool false) ∧ g' = some (l, all, xs ++ part, false))
def OnPost0 (ys : List PD) (H : Heap) (l : Nat) (all xs : List PD) : PV → Heap → Gh → Prop := fun p H' g' =>
  heapLe H H' ∧ ((p = .d (.bool true) ∧ g' = some (l, all, xs ++ ys, true)) ∨ ∃ part rest, ys = part ++ rest ∧ p = .d (.bool false) ∧ g' = some (l, all, xs ++ part, false))
theorem heapOn_refs (m : Market) (frm length : Int) (rounds : Bool) (l n : Nat) (s : List Bool) : heapRefs (heapOn m frm length rounds l n s) (heapOn m frm length rounds l n s) := by
  simp only [heapOn, capsOn, go_sem, ↓reduceIte]
theorem on_less {f : FuncId} {args : List PV} {g : Gh} {m : Market} {frm length : Int} {rounds : Bool} {l n : Nat} {s : List Bool} {all xs ys : List PD} {H0 : Heap} (h : FnG Tryd.prog G f args H0 g (OnPost0 ys (heapOn m frm length rounds l n s) l all xs)) :
    FnG Tryd.prog G f args H0 g (OnPost ys (heapOn m frm length rounds l n s) l all xs) := by
  refine h.less fun p H' g' h => ⟨_, h.1, heapOn_refs .., ?_, rfl, h.2⟩
  rcases h.2 with ⟨rfl, _⟩ | ⟨_, _, _, rfl, _⟩ <;> exact trivial
structure OnOk (m : Market) (length : Int) (w : Walk) (s : List Bool) (k : Nat) : Prop where
  k1 : w.list.length + k = length.toNat + 1
  k2 : 1 ≤ k
  len : s.length = m.n.toNat
  to1 : 0 ≤ w.to
  to2 : w.to < m.n
  num1 : 1 ≤ w.rate.Num
  num2 : w.rate.Num ≤ 50 ^ w.list.length
  den1 : 1 ≤ w.rate.Den
  den2 : w.rate.Den ≤ 50 ^ w.list.length
  free : s[w.to.toNat]? = some false ∨ (w.list.length : Int) = length
theorem on_end (m : Market) (frm length : Int) (rounds : Bool) (l : Nat) (all : List PD) (k : Nat) (w : Walk) (s : List Bool) (xs : List PD) (hk : OnOk m length w s (k + 1)) (he : (w.list.length : Int) = length)
    (hall : xs ++ lenc Walk.pd (walkOn m.offers frm length rounds (k + 1) w s) <+: all) :
    FnG Tryd.prog G 94 (.d w.pd :: capsOn m frm length rounds) (heapOn m frm length rounds l m.n.toNat s) (some (l, all, xs, true)) (OnPost (lenc Walk.pd (walkOn m.offers frm length rounds (k + 1) w s)) (heapOn m frm length rounds l m.n.toNat s) l all xs) := by
  have hw : walkOn m.offers frm length rounds (k + 1) w s = if (!(decide (w.to = frm) == rounds)) = true then [] else [w] := by rw [walkOn, if_pos he]
  rw [hw] at hall ⊢
  rcases Bool.eq_false_or_eq_true (!(decide (w.to = frm) == rounds)) with hg | hg
  · rw [if_pos hg] at hall ⊢
    refine on_less ?_
    refine FnG.introD Tryd.func94 (by rfl) (by rw [Tryd.ntmps94]; simp [capsOn]) ?_
    rw [Tryd.ntmps94]
    simp only [argEnv, capsOn, heapOn, Nat.reduceAdd]
    refine AWp.seq fun K hK => AWp.reg ?_
    iterate 2 (refine AOps.consU fun K' hK' => ?_; simp (disch := omega) only [go_sem, ↓reduceIte]; refine hK' _ ?_; clear hK' K')
    refine AOps.nil ?_
    simp only [Post.then]
    refine hK _ ?_; clear hK K
    refine AWp.seq fun K hK => ?_
    refine AWp.seq fun K2 hK2 => AWp.reg ?_
    iterate 5 (refine AOps.consU fun K' hK' => ?_; simp (disch := omega) only [go_sem, ↓reduceIte]; refine hK' _ ?_; clear hK' K')
    refine AOps.nil ?_
    simp only [Post.then]
    refine hK2 _ ?_; clear hK2 K2
    refine AWp.cond (b := decide ((w.list.length : Int) = length)) (by rfl) (fun hb => ?_) (fun hb => ?_)
    · refine AWp.seq fun K2 hK2 => AWp.reg ?_
      iterate 7 (refine AOps.consU fun K' hK' => ?_; simp (disch := omega) only [go_sem, ↓reduceIte]; refine hK' _ ?_; clear hK' K')
      rw [hg]
      iterate 5 (refine AOps.consU fun K' hK' => ?_; simp (disch := omega) only [go_sem, ↓reduceIte]; refine hK' _ ?_; clear hK' K')
      refine AOps.nil ?_
      simp only [Post.then]
      refine hK2 _ ?_; clear hK2 K2
      refine AWp.ret ?_
      simp only [Post.then, Fin1]
      refine .inl ⟨.d (.bool true), ?_, by first | exact True.intro | rfl, ⟨rfl, rfl, rfl, rfl, trivial⟩, .inl ⟨rfl, ?_⟩⟩
      · simp only [go_sem, Tryd.results94, ↓reduceIte]
      · show _ = some (l, all, xs ++ lenc Walk.pd [], true)
        simp [lenc]
    · exact absurd he (by simpa using hb)
  · rw [if_neg (by simp [hg])] at hall ⊢
    refine on_less ?_
    refine FnG.introD Tryd.func94 (by rfl) (by rw [Tryd.ntmps94]; simp [capsOn]) ?_
    rw [Tryd.ntmps94]
    simp only [argEnv, capsOn, heapOn, Nat.reduceAdd]
    refine AWp.seq fun K hK => AWp.reg ?_
    iterate 2 (refine AOps.consU fun K' hK' => ?_; simp (disch := omega) only [go_sem, ↓reduceIte]; refine hK' _ ?_; clear hK' K')
    refine AOps.nil ?_
    simp only [Post.then]
    refine hK _ ?_; clear hK K
    refine AWp.seq fun K hK => ?_
    refine AWp.seq fun K2 hK2 => AWp.reg ?_
    iterate 5 (refine AOps.consU fun K' hK' => ?_; simp (disch := omega) only [go_sem, ↓reduceIte]; refine hK' _ ?_; clear hK' K')
    refine AOps.nil ?_
    simp only [Post.then]
    refine hK2 _ ?_; clear hK2 K2
    refine AWp.cond (b := decide ((w.list.length : Int) = length)) (by rfl) (fun hb => ?_) (fun hb => ?_)
    · refine AWp.seq fun K2 hK2 => AWp.reg ?_
      iterate 7 (refine AOps.consU fun K' hK' => ?_; simp (disch := omega) only [go_sem, ↓reduceIte]; refine hK' _ ?_; clear hK' K')
      rw [hg]
      iterate 2 (refine AOps.consU fun K' hK' => ?_; simp (disch := omega) only [go_sem, ↓reduceIte]; refine hK' _ ?_; clear hK' K')
      refine AOps.consC (by simp only [go_sem, ↓reduceIte]) fun K' hK' => ?_
      simp (disch := omega) only [go_sem, ↓reduceIte]
      refine OpT.yield (x := Walk.pd w) (by rfl) (by rfl) (by rfl) (by rfl) (by rfl) (by rfl) (by simpa [lenc] using hall) (by simp only [go_sem, ↓reduceIte]) fun b => ?_
      simp only [go_sem, ↓reduceIte]; refine hK' _ ?_; clear hK' K'
      iterate 2 (refine AOps.consU fun K' hK' => ?_; simp (disch := omega) only [go_sem, ↓reduceIte]; refine hK' _ ?_; clear hK' K')
      refine AOps.nil ?_
      simp only [Post.then]
      refine hK2 _ ?_; clear hK2 K2
      refine AWp.ret ?_
      simp only [Post.then, Fin1]
      cases b with
      | true =>
        refine .inl ⟨.d (.bool true), ?_, by first | exact True.intro | rfl, ⟨rfl, rfl, rfl, rfl, trivial⟩, .inl ⟨rfl, ?_⟩⟩
        · simp only [go_sem, Tryd.results94, ↓reduceIte]
        · rfl
      | false =>
        refine .inl ⟨.d (.bool false), ?_, by first | exact True.intro | rfl, ⟨rfl, rfl, rfl, rfl, trivial⟩, .inr ⟨lenc Walk.pd [w], [], by simp, rfl, ?_⟩⟩
        · simp only [go_sem, Tryd.results94, ↓reduceIte]
        · rfl
    · exact absurd he (by simpa using hb)
end Go.Pv.Tryd

set_option linter.unusedSimpArgs false
set_option linter.unusedVariables false
namespace Go.Pv.Tryd
open Go.Proofs Go.Pv
def heapIn (m : Market) (frm length : Int) (rounds : Bool) (l n : Nat) (s : List Bool) (w : Walk) : Heap :=
  [(1, ⟨127, 1, [.d (.fn (.yield l))]⟩), (2, ⟨128, 1, [.slc 3 0 n]⟩), (3, ⟨4, 1, dl (lenc PD.bool s)⟩), (4, ⟨127, 1, [.func (.func 94) (capsOn m frm length rounds)]⟩), (1000, ⟨83, 4, [.d w.pd]⟩)]
theorem on_leave {env : List (Nat × PV)} {c : Bool} (h9 : eget env 9 = .d (.bool c)) {m : Market} {frm length : Int} {rounds : Bool} {l : Nat} {s : List Bool} {w : Walk} {g : Gh} (hg : g.isSome = true) (hs : s.length = m.n.toNat) (h0 : 0 ≤ w.to ∧ w.to < m.n)
    (hf : s[w.to.toNat]? = some false) {R : PV → Heap → Gh → Prop} (hR : R (.d (.bool c)) (heapIn m frm length rounds l m.n.toNat s w) g) :
    Fin1 Tryd.prog G Tryd.f94 R .ret ⟨env, heapIn m frm length rounds l m.n.toNat (s.set w.to.toNat true) w, [.func (.func 95) [.ptr 2 0 0, .ptr 1000 0 0]], g⟩ := by
  have hset : (s.set w.to.toNat true).set w.to.toNat false = s := by
    rw [List.set_set]
    obtain ⟨h1, h2⟩ := List.getElem?_eq_some_iff.1 hf
    rw [← h2, List.set_getElem_self]
  have hres : ∀ (H : Heap) (D : List PV) (g : Gh), resV Tryd.prog G Tryd.f94.results.toList ⟨env, H, D, g⟩ = some (.d (.bool c)) := fun H D g => by
    simp only [go_sem, Tryd.results94, h9, ↓reduceIte]
  simp only [Fin1]
  refine .inr ⟨_, 95, _, [.ptr 1 0 0, .ptr 2 0 0], [(1, ⟨128, 1, [.slc 3 0 m.n.toNat]⟩), (3, ⟨4, 1, dl (lenc PD.bool (s.set w.to.toNat true))⟩), (2, ⟨83, 4, [.d w.pd]⟩)], renOf [(1, 2), (3, 3), (2, 1000)], _, rfl, hg, rfl, by kernel_rfl, Hand.of ?_ ?_, ?_,
    reset_fn m.n.toNat (s.set w.to.toNat true) w g hg (by simpa using hs) ⟨h0.1, by omega⟩, ?_⟩
  · simp only [go_sem, heapIn, Row.ren, renL, PV.ren, dl_ren, Walk.pd, ↓reduceIte]
  · simp only [go_sem, ↓reduceIte]
  · simp only [go_sem, handsOk, handOk, ↓reduceIte]
  · rintro p H' g' ⟨rfl, rfl⟩
    refine ⟨renOf [(1, 2), (3, 3), (2, 1000)], Back.of ?_ ?_ ?_, .d (.bool c), hres _ _ _, ?_⟩
    · simp only [go_sem, Row.ren, renL, PV.ren, dl_ren, dl_length, lenc_length, List.length_set, dl_clean, clean, cleanL, Walk.pd, ↓reduceIte]
    · simp only [go_sem, ↓reduceIte]
    · simp only [go_sem, ↓reduceIte]
    · have e : hmerge (renOf [(1, 2), (3, 3), (2, 1000)]) [(1, ⟨128, 1, [.slc 3 0 m.n.toNat]⟩), (3, ⟨4, 1, dl (lenc PD.bool ((s.set w.to.toNat true).set w.to.toNat false))⟩), (2, ⟨83, 4, [.d w.pd]⟩)] (heapIn m frm length rounds l m.n.toNat (s.set w.to.toNat true) w) = heapIn m frm length rounds l m.n.toNat s w := by
        rw [hset]
        simp only [go_sem, hmerge, heapIn, Row.ren, renL, PV.ren, dl_ren, ↓reduceIte]
      have e2 : ghBack ⟨env, heapIn m frm length rounds l m.n.toNat (s.set w.to.toNat true) w, [.func (.func 95) [.ptr 2 0 0, .ptr 1000 0 0]], g'⟩ g' g' = g' := by cases g' <;> rfl
      rw [e]
      show R _ _ (ghBack _ g' g')
      rw [e2]
      exact hR
end Go.Pv.Tryd

set_option linter.unusedSimpArgs false
set_option linter.unusedVariables false
namespace Go.Pv.Tryd
open Go.Proofs Go.Pv
def addOf (offers : List Offer) (frm length : Int) (rounds : Bool) (k : Nat) (w : Walk) (s : List Bool) (oi : Offer × Nat) : List Walk :=
  if walkSkip frm length rounds w (s.set w.to.toNat true) oi.1 = true then []
  else walkOn offers frm length rounds k ⟨w.list ++ [(oi.2 : Int)], timesN w.rate (ratioN oi.1.Num oi.1.Den), oi.1.To⟩ (s.set w.to.toNat true)
def ysOf (offers : List Offer) (frm length : Int) (rounds : Bool) (k : Nat) (w : Walk) (s : List Bool) (i : Nat) : List Walk := (offers.zipIdx.take i).flatMap (addOf offers frm length rounds k w s)
theorem ysOf_zero (offers : List Offer) (frm length : Int) (rounds : Bool) (k : Nat) (w : Walk) (s : List Bool) : ysOf offers frm length rounds k w s 0 = [] := rfl
theorem ysOf_succ {offers : List Offer} {frm length : Int} {rounds : Bool} {k : Nat} {w : Walk} {s : List Bool} {i : Nat} {o : Offer} (h : offers[i]? = some o) :
    ysOf offers frm length rounds k w s (i + 1) = ysOf offers frm length rounds k w s i ++ addOf offers frm length rounds k w s (o, i) := by
  have hz : offers.zipIdx[i]? = some (o, i) := by simp [List.getElem?_zipIdx, h]
  unfold ysOf
  rw [List.take_add_one, hz]
  simp [List.flatMap_append]
theorem ysOf_all (offers : List Offer) (frm length : Int) (rounds : Bool) (k : Nat) (w : Walk) (s : List Bool) : ysOf offers frm length rounds k w s offers.length = offers.zipIdx.flatMap (addOf offers frm length rounds k w s) := by
  unfold ysOf
  rw [List.take_of_length_le (by simp)]
theorem ysOf_pre {offers : List Offer} {frm length : Int} {rounds : Bool} {k : Nat} {w : Walk} {s : List Bool} {i : Nat} : ∃ r, offers.zipIdx.flatMap (addOf offers frm length rounds k w s) = ysOf offers frm length rounds k w s i ++ r := by
  refine ⟨(offers.zipIdx.drop i).flatMap (addOf offers frm length rounds k w s), ?_⟩
  unfold ysOf
  rw [← List.flatMap_append, List.take_append_drop]
def headOn (m : Market) (frm length : Int) (rounds : Bool) (l : Nat) (all xs : List PD) (k : Nat) (w : Walk) (s : List Bool) (i : Nat) : St :=
  ⟨[(1, .dptr 1 [.int .i64 length] 0 0), (2, .dptr 1 [.int .i64 frm] 0 0), (3, .dptr 1 [.bool rounds] 0 0), (5, .ptr 2 0 0), (7, .ptr 4 0 0), (8, .ptr 1000 0 0), (35, .d (.imm 4 (lenc Offer.pd m.offers))), (36, .d (.int .i64 m.offers.length)), (37, .d (.int .i64 i))],
   heapIn m frm length rounds l m.n.toNat (s.set w.to.toNat true) w, [.func (.func 95) [.ptr 2 0 0, .ptr 1000 0 0]], some (l, all, xs ++ lenc Walk.pd (ysOf m.offers frm length rounds k w s i), true)⟩
theorem heapIn_refs (m : Market) (frm length : Int) (rounds : Bool) (l n : Nat) (s : List Bool) (w : Walk) : heapRefs (heapIn m frm length rounds l n s w) (heapIn m frm length rounds l n s w) := by
  simp only [heapIn, capsOn, go_sem, ↓reduceIte]
theorem on_step (m : Market) (frm length : Int) (rounds : Bool) (l : Nat) (all : List PD) (hpre : walksPre m frm length rounds = true) (k : Nat) (w : Walk) (s : List Bool) (xs : List PD) (hk : OnOk m length w s (k + 1)) (he : ¬ (w.list.length : Int) = length)
    (ih : ∀ (w' : Walk) (s' : List Bool) (xs' : List PD), OnOk m length w' s' k → xs' ++ lenc Walk.pd (walkOn m.offers frm length rounds k w' s') <+: all →
      FnG Tryd.prog G 94 (.d w'.pd :: capsOn m frm length rounds) (heapOn m frm length rounds l m.n.toNat s') (some (l, all, xs', true)) (OnPost (lenc Walk.pd (walkOn m.offers frm length rounds k w' s')) (heapOn m frm length rounds l m.n.toNat s') l all xs'))
    (hall : xs ++ lenc Walk.pd (walkOn m.offers frm length rounds (k + 1) w s) <+: all) :
    FnG Tryd.prog G 94 (.d w.pd :: capsOn m frm length rounds) (heapOn m frm length rounds l m.n.toNat s) (some (l, all, xs, true)) (OnPost (lenc Walk.pd (walkOn m.offers frm length rounds (k + 1) w s)) (heapOn m frm length rounds l m.n.toNat s) l all xs) := by
  have hw : walkOn m.offers frm length rounds (k + 1) w s = m.offers.zipIdx.flatMap (addOf m.offers frm length rounds k w s) := by rw [walkOn, if_neg he]; rfl
  rw [hw] at hall ⊢
  have hf : s[w.to.toNat]? = some false := hk.free.resolve_right he
  have hto : w.to.toNat < s.length := by rw [hk.len]; have := hk.to1; have := hk.to2; omega
  have hn : s.length = m.n.toNat := hk.len
  have ht1 := hk.to1
  have ht2 := hk.to2
  refine on_less ?_
  refine FnG.introD Tryd.func94 (by rfl) (by rw [Tryd.ntmps94]; simp [capsOn]) ?_
  rw [Tryd.ntmps94]
  simp only [argEnv, capsOn, heapOn, Nat.reduceAdd]
  refine AWp.seq fun K hK => AWp.reg ?_
  iterate 2 (refine AOps.consU fun K' hK' => ?_; simp (disch := omega) only [go_sem, ↓reduceIte]; refine hK' _ ?_; clear hK' K')
  refine AOps.nil ?_
  simp only [Post.then]
  refine hK _ ?_; clear hK K
  refine AWp.seq fun K hK => ?_
  refine AWp.seq fun K2 hK2 => AWp.reg ?_
  iterate 5 (refine AOps.consU fun K' hK' => ?_; simp (disch := omega) only [go_sem, ↓reduceIte]; refine hK' _ ?_; clear hK' K')
  refine AOps.nil ?_
  simp only [Post.then]
  refine hK2 _ ?_; clear hK2 K2
  refine AWp.cond (b := decide ((w.list.length : Int) = length)) (by rfl) (fun hb => ?_) (fun hb => ?_)
  · exact absurd (by simpa using hb) he
  refine AWp.skip ?_
  simp only [Post.then, Post.inBlock]
  refine hK _ ?_; clear hK K
  -- seen
  have hget : s[w.to.toNat]? = some s[w.to.toNat] := List.getElem?_eq_getElem hto
  refine AWp.seq fun K hK => AWp.reg ?_
  iterate 5 (refine AOps.consU fun K' hK' => ?_; simp (disch := omega) only [go_sem, hget, ↓reduceIte]; refine hK' _ ?_; clear hK' K')
  refine AOps.nil ?_
  simp only [Post.then]
  refine hK _ ?_; clear hK K
  -- the deferred call
  refine AWp.seq fun K hK => AWp.reg ?_
  iterate 1 (refine AOps.consU fun K' hK' => ?_; simp (disch := omega) only [go_sem, ↓reduceIte]; refine hK' _ ?_; clear hK' K')
  refine AOps.consC (by simp only [go_sem]) fun K' hK' => ?_
  simp (disch := omega) only [go_sem, ↓reduceIte]
  refine OpT.defer (by rfl) (by rfl) (by rfl) (by rfl) (by simp only [go_sem]) ?_
  simp only [go_sem, ↓reduceIte]; refine hK' _ ?_; clear hK' K'
  refine AOps.nil ?_
  simp only [Post.then]
  refine hK _ ?_; clear hK K
  -- the loop
  refine AWp.seqI (fun _ : Unit => headOn m frm length rounds l all xs k w s m.offers.length) (fun _ => True) ?_ ?_
  rotate_left
  · rintro ⟨⟩ _
    simp only [headOn]
    refine AWp.seq fun K hK => AWp.reg ?_
    iterate 1 (refine AOps.consU fun K' hK' => ?_; simp (disch := omega) only [go_sem, ↓reduceIte]; refine hK' _ ?_; clear hK' K')
    refine AOps.nil ?_
    simp only [Post.then]
    refine hK _ ?_; clear hK K
    refine AWp.ret ?_
    refine on_leave (c := true) (by rfl) rfl hn ⟨ht1, ht2⟩ hf ⟨⟨rfl, rfl, rfl, rfl, trivial⟩, .inl ⟨rfl, ?_⟩⟩
    rw [ysOf_all]
  refine AWp.seq fun K hK => AWp.reg ?_
  iterate 4 (refine AOps.consU fun K' hK' => ?_; simp (disch := omega) only [go_sem, ↓reduceIte]; refine hK' _ ?_; clear hK' K')
  refine AOps.nil ?_
  simp only [Post.then]
  refine hK _ ?_; clear hK K
  refine AWp.block ?_
  refine AWp.loopI (fun i : Nat => headOn m frm length rounds l all xs k w s i) (fun i => i ≤ m.offers.length) (fun i => m.offers.length - i) 0 (Nat.zero_le _) ?_ ?_
  · refine Sub.mk ⟨rfl, rfl, rfl, rfl, rfl, rfl, rfl, rfl, rfl, trivial⟩ ⟨rfl, rfl, rfl, rfl, rfl, trivial⟩ ⟨trivial, trivial, trivial, rfl, rfl, rfl, trivial, trivial, trivial, trivial⟩ (heapIn_refs ..) ⟨rfl, ?_, ?_⟩
    · simp only [headOn, heapIn, go_sem, ↓reduceIte]
    · simp [headOn, ysOf_zero, lenc]
  · intro i hi
    simp only [headOn, heapIn]
    refine AWp.seq fun K hK => AWp.reg ?_
    iterate 1 (refine AOps.consU fun K' hK' => ?_; simp (disch := omega) only [go_sem, ↓reduceIte]; refine hK' _ ?_; clear hK' K')
    refine AOps.nil ?_
    simp only [Post.then]
    refine hK _ ?_; clear hK K
    refine AWp.seq fun K hK => ?_
    refine AWp.cond (b := decide ((i : Int) < m.offers.length)) (by rfl) (fun hb => ?_) (fun hb => ?_)
    rotate_left
    · have hi2 : i = m.offers.length := by
        have : ¬ (i : Int) < m.offers.length := by simpa using hb
        omega
      subst hi2
      refine AWp.exit ?_
      simp only [Post.then, Post.inBlock, ↓reduceIte]
      refine ⟨(), trivial, ?_⟩
      exact Sub.mk ⟨rfl, rfl, rfl, rfl, rfl, rfl, rfl, rfl, rfl, trivial⟩ ⟨rfl, rfl, rfl, rfl, rfl, trivial⟩ ⟨trivial, trivial, trivial, rfl, rfl, rfl, trivial, trivial, trivial, trivial⟩ (heapIn_refs ..) ⟨rfl, by simp only [headOn, heapIn, go_sem, ↓reduceIte], rfl⟩
    have hi2 : i < m.offers.length := by
      have : (i : Int) < m.offers.length := by simpa using hb
      omega
    obtain ⟨o, ho⟩ : ∃ o, m.offers[i]? = some o := ⟨_, List.getElem?_eq_getElem hi2⟩
    have hgo : goodOffer m.n o = true := by
      simp only [walksPre, Bool.and_eq_true, List.all_eq_true] at hpre
      exact hpre.2 o (List.mem_of_getElem? ho)
    have hyd : ∀ (σ' : St), Sub G 94 σ' (headOn m frm length rounds l all xs k w s (i + 1)) → ∃ i', i' ≤ m.offers.length ∧ m.offers.length - i' < m.offers.length - i ∧ Sub G 94 σ' (headOn m frm length rounds l all xs k w s i') := fun σ' h => ⟨i + 1, by omega, by omega, h⟩
    refine AWp.skip ?_
    simp only [Post.then, Post.inBlock]
    refine hK _ ?_; clear hK K
    refine AWp.seq fun K hK => ?_
    refine AWp.block ?_
    refine AWp.seq fun K2 hK2 => AWp.reg ?_
    iterate 6 (refine AOps.consU fun K' hK' => ?_; simp (disch := omega) only [go_sem, ho, Int.toNat_natCast, ↓reduceIte]; refine hK' _ ?_; clear hK' K')
    refine AOps.nil ?_
    simp only [Post.then]
    refine hK2 _ ?_; clear hK2 K2
    refine AWp.seq fun K2 hK2 => AWp.reg ?_
    iterate 7 (refine AOps.consU fun K' hK' => ?_; simp (disch := omega) only [go_sem, ↓reduceIte]; refine hK' _ ?_; clear hK' K')
    refine AOps.nil ?_
    simp only [Post.then]
    refine hK2 _ ?_; clear hK2 K2
    refine AWp.seq fun K2 hK2 => ?_
    refine AWp.seq fun K3 hK3 => AWp.reg ?_
    simp only [goodOffer, decide_eq_true_eq] at hgo
    obtain ⟨hg1, hg2, hg3, hg4, hg5, hg6, hg7, hg8⟩ := hgo
    have hto2 : o.To.toNat < (s.set w.to.toNat true).length := by rw [List.length_set, hn]; omega
    have hse : (s.set w.to.toNat true)[o.To.toNat]? = some ((s.set w.to.toNat true).getD o.To.toNat false) := by
      simp only [List.getD, List.getElem?_eq_getElem hto2, Option.getD_some]
    have hwl : w.list.length ≤ 1000 := by
      have := hk.k1
      simp only [walksPre, Bool.and_eq_true, decide_eq_true_eq] at hpre
      omega
    have hra : m_rate_ratio o.Num o.Den = some (ratioN o.Num o.Den) := ratio_some _ _ ⟨hg5, by omega⟩ ⟨hg7, by omega⟩
    have hgcd : 0 < Int.gcd o.Num o.Den := Int.gcd_pos_of_ne_zero_left _ (by omega)
    have hrn : 1 ≤ (ratioN o.Num o.Den).Num ∧ (ratioN o.Num o.Den).Num ≤ 50 ∧ 1 ≤ (ratioN o.Num o.Den).Den ∧ (ratioN o.Num o.Den).Den ≤ 50 := ratioN_bounds ⟨hg5, hg6⟩ ⟨hg7, hg8⟩
    have hp6 : (50 : Int) ^ w.list.length ≤ 15625000000 := by
      have hl : w.list.length ≤ 5 := by
        have := hk.k1
        simp only [walksPre, Bool.and_eq_true, decide_eq_true_eq] at hpre
        omega
      have : ∀ n : Nat, n ≤ 5 → (50 : Int) ^ n ≤ 15625000000 := by decide
      exact this _ hl
    have hti : m_rate_times w.rate (ratioN o.Num o.Den) = some (timesN w.rate (ratioN o.Num o.Den)) := by
      have b1 := hk.num1
      have b2 := hk.num2
      have b3 := hk.den1
      have b4 := hk.den2
      have m1 := mul_bounds (x := w.rate.Num) (y := (ratioN o.Num o.Den).Num) (a := 15625000000) (b := 50) ⟨by omega, by omega⟩ ⟨by omega, by omega⟩
      have m2 := mul_bounds (x := w.rate.Den) (y := (ratioN o.Num o.Den).Den) (a := 15625000000) (b := 50) ⟨by omega, by omega⟩ ⟨by omega, by omega⟩
      exact times_some _ _ ⟨by omega, by omega⟩ ⟨by omega, by omega⟩ ⟨by omega, by omega⟩ ⟨by omega, by omega⟩ (by omega) (by omega)
    have wl : IntKind.i64.wrap (length - 1) = length - 1 := by
      simp only [walksPre, Bool.and_eq_true, decide_eq_true_eq] at hpre
      exact wrap_i64_eq (by omega)
    have hlen2 : o.To < ((m.n.toNat : Nat) : Int) := by omega
    refine AOps.cut 25 (⟨[(1, .dptr 1 [.int .i64 length] 0 0), (2, .dptr 1 [.int .i64 frm] 0 0), (3, .dptr 1 [.bool rounds] 0 0), (5, .ptr 2 0 0), (7, .ptr 4 0 0), (8, .ptr 1000 0 0), (10, .d (.int .i64 i)), (11, .ptr 1001 0 0), (35, .d (.imm 4 (lenc Offer.pd m.offers))), (36, .d (.int .i64 m.offers.length)), (37, .d (.int .i64 i)), (72, .d (.bool (walkSkip frm length rounds w (s.set w.to.toNat true) o)))],
      heapIn m frm length rounds l m.n.toNat (s.set w.to.toNat true) w ++ [(1001, ⟨43, 4, [.d o.pd]⟩)], [.func (.func 95) [.ptr 2 0 0, .ptr 1000 0 0]], some (l, all, xs ++ lenc Walk.pd (ysOf m.offers frm length rounds k w s i), true)⟩) ?_ ?_
    · simp only [List.take_succ_cons, List.take_zero]
      rcases Bool.eq_false_or_eq_true (decide (¬o.From = w.to)) with c1 | c1
      · have hsk : walkSkip frm length rounds w (s.set w.to.toNat true) o = true := by simp only [walkSkip, c1, Bool.true_or]
        rw [hsk]
        iterate 25 (refine AOps.consU fun K' hK' => ?_; simp (disch := omega) only [go_sem, hse, c1, ↓reduceIte]; refine hK' _ ?_; clear hK' K')
        refine AOps.nil ?_
        exact Sub.mk ⟨rfl, rfl, rfl, rfl, rfl, rfl, rfl, rfl, rfl, rfl, rfl, rfl, trivial⟩ ⟨rfl, rfl, rfl, rfl, rfl, rfl, trivial⟩ ⟨trivial, trivial, trivial, rfl, rfl, rfl, trivial, rfl, trivial, trivial, trivial, trivial, trivial⟩ (by simp only [heapIn, capsOn, go_sem, ↓reduceIte]) ⟨rfl, by simp only [heapIn, go_sem, ↓reduceIte], rfl⟩
      rcases Bool.eq_false_or_eq_true ((s.set w.to.toNat true).getD o.To.toNat false) with c2 | c2
      rotate_left
      · have hsk : walkSkip frm length rounds w (s.set w.to.toNat true) o = false := by simp only [walkSkip, c1, c2, Bool.false_and, Bool.or_false]
        rw [hsk]
        iterate 25 (refine AOps.consU fun K' hK' => ?_; simp (disch := omega) only [go_sem, hse, c1, c2, ↓reduceIte]; refine hK' _ ?_; clear hK' K')
        refine AOps.nil ?_
        exact Sub.mk ⟨rfl, rfl, rfl, rfl, rfl, rfl, rfl, rfl, rfl, rfl, rfl, rfl, trivial⟩ ⟨rfl, rfl, rfl, rfl, rfl, rfl, trivial⟩ ⟨trivial, trivial, trivial, rfl, rfl, rfl, trivial, rfl, trivial, trivial, trivial, trivial, trivial⟩ (by simp only [heapIn, capsOn, go_sem, ↓reduceIte]) ⟨rfl, by simp only [heapIn, go_sem, ↓reduceIte], rfl⟩
      rcases Bool.eq_false_or_eq_true rounds with c3 | c3
      rotate_left
      · subst c3
        have hsk : walkSkip frm length false w (s.set w.to.toNat true) o = true := by simp only [walkSkip, c1, c2, Bool.false_and, Bool.not_false, Bool.and_true, Bool.or_true]
        rw [hsk]
        iterate 25 (refine AOps.consU fun K' hK' => ?_; simp (disch := omega) only [go_sem, hse, c1, c2, ↓reduceIte]; refine hK' _ ?_; clear hK' K')
        refine AOps.nil ?_
        exact Sub.mk ⟨rfl, rfl, rfl, rfl, rfl, rfl, rfl, rfl, rfl, rfl, rfl, rfl, trivial⟩ ⟨rfl, rfl, rfl, rfl, rfl, rfl, trivial⟩ ⟨trivial, trivial, trivial, rfl, rfl, rfl, trivial, rfl, trivial, trivial, trivial, trivial, trivial⟩ (by simp only [heapIn, capsOn, go_sem, ↓reduceIte]) ⟨rfl, by simp only [heapIn, go_sem, ↓reduceIte], rfl⟩
      subst c3
      rcases Bool.eq_false_or_eq_true (decide ((w.list.length : Int) = length - 1)) with c4 | c4
      rotate_left
      · have hsk : walkSkip frm length true w (s.set w.to.toNat true) o = true := by simp only [walkSkip, c1, c2, c4, Bool.and_false, Bool.false_and, Bool.not_false, Bool.and_true, Bool.or_true]
        rw [hsk]
        iterate 25 (refine AOps.consU fun K' hK' => ?_; simp (disch := omega) only [go_sem, hse, c1, c2, c4, wl, ↓reduceIte]; refine hK' _ ?_; clear hK' K')
        refine AOps.nil ?_
        exact Sub.mk ⟨rfl, rfl, rfl, rfl, rfl, rfl, rfl, rfl, rfl, rfl, rfl, rfl, trivial⟩ ⟨rfl, rfl, rfl, rfl, rfl, rfl, trivial⟩ ⟨trivial, trivial, trivial, rfl, rfl, rfl, trivial, rfl, trivial, trivial, trivial, trivial, trivial⟩ (by simp only [heapIn, capsOn, go_sem, ↓reduceIte]) ⟨rfl, by simp only [heapIn, go_sem, ↓reduceIte], rfl⟩
      · have hsk : walkSkip frm length true w (s.set w.to.toNat true) o = !(decide (o.To = frm)) := by simp only [walkSkip, c1, c2, c4, Bool.true_and, Bool.and_true, Bool.false_or]
        rw [hsk]
        iterate 25 (refine AOps.consU fun K' hK' => ?_; simp (disch := omega) only [go_sem, hse, c1, c2, c4, wl, ↓reduceIte]; refine hK' _ ?_; clear hK' K')
        refine AOps.nil ?_
        exact Sub.mk ⟨rfl, rfl, rfl, rfl, rfl, rfl, rfl, rfl, rfl, rfl, rfl, rfl, trivial⟩ ⟨rfl, rfl, rfl, rfl, rfl, rfl, trivial⟩ ⟨trivial, trivial, trivial, rfl, rfl, rfl, trivial, rfl, trivial, trivial, trivial, trivial, trivial⟩ (by simp only [heapIn, capsOn, go_sem, ↓reduceIte]) ⟨rfl, by simp only [heapIn, go_sem, ↓reduceIte], rfl⟩
    simp only [List.drop_succ_cons, List.drop_zero, heapIn, List.cons_append, List.nil_append]
    refine AOps.nil ?_
    simp only [Post.then]
    refine hK3 _ ?_; clear hK3 K3
    refine AWp.cond (b := walkSkip frm length rounds w (s.set w.to.toNat true) o) (by rfl) (fun hb => ?_) (fun hb => ?_)
    · refine AWp.exit ?_
      simp only [Post.then, Post.inBlock, ↓reduceIte]
      refine hK _ ?_; clear hK2 K2 hK K
      refine AWp.reg ?_
      iterate 2 (refine AOps.consU fun K' hK' => ?_; simp (disch := omega) only [go_sem, ↓reduceIte]; refine hK' _ ?_; clear hK' K')
      refine AOps.nil ?_
      simp only [Post.then]
      refine hyd _ ?_
      have hys : ysOf m.offers frm length rounds k w s (i + 1) = ysOf m.offers frm length rounds k w s i := by
        rw [ysOf_succ ho]; simp only [addOf, hb, if_true, List.append_nil]
      have hwi : IntKind.i64.wrap ((i : Int) + 1) = ((i + 1 : Nat) : Int) := by
        simp only [walksPre, Bool.and_eq_true, decide_eq_true_eq] at hpre
        rw [wrap_i64_eq (by omega)]; omega
      rw [hwi]
      exact Sub.mk ⟨rfl, rfl, rfl, rfl, rfl, rfl, rfl, rfl, rfl, trivial⟩ ⟨rfl, rfl, rfl, rfl, rfl, trivial⟩ ⟨trivial, trivial, trivial, rfl, rfl, rfl, trivial, trivial, trivial, trivial⟩ (heapIn_refs ..) ⟨rfl, by simp only [headOn, heapIn, go_sem, ↓reduceIte], by simp only [headOn, hys]⟩
    · refine AWp.skip ?_
      simp only [Post.then, Post.inBlock]
      refine hK2 _ ?_; clear hK2 K2
      refine AWp.seq fun K2 hK2 => AWp.draw mo [(1002, [76, 79, 90])] ⟨by rfl, trivial⟩ ?_
      iterate 3 (refine DOps.consU fun K' hK' => ?_; simp (disch := omega) only [go_sem, exE, exOk, Key.among, Cont.rows, rowsOf, rowsOfL, capsOn, false_or, or_true, true_or, or_false, List.contains_cons, List.contains_nil, ↓reduceIte]; refine hK' _ _ ?_; clear hK' K'; simp only [List.nil_append, List.cons_append])
      refine DOps.consC fun K' hK' => ?_
      simp (disch := omega) only [go_sem, ↓reduceIte]
      refine OpX.callRow 1002 (by rfl) (by rfl) (by kernel_rfl) (clone_fn w.list hwl) (by exact ⟨rfl, trivial⟩) (by simp only [go_sem, ↓reduceIte]) (by rfl) (by decide) (by simp only [go_sem, exE, exOk, Key.among, Cont.rows, rowsOf, rowsOfL, capsOn, false_or, or_true, true_or, or_false, List.contains_cons, List.contains_nil, ↓reduceIte]) ?_
      simp (disch := omega) only [go_sem, ↓reduceIte]; refine hK' _ _ ?_; clear hK' K'; simp only [List.nil_append, List.cons_append]
      iterate 1 (refine DOps.consU fun K' hK' => ?_; simp (disch := omega) only [go_sem, exE, exOk, Key.among, Cont.rows, rowsOf, rowsOfL, capsOn, false_or, or_true, true_or, or_false, List.contains_cons, List.contains_nil, ↓reduceIte]; refine hK' _ _ ?_; clear hK' K'; simp only [List.nil_append, List.cons_append])
      refine DOps.consLU fun K' hK' => ?_; simp (disch := omega) only [go_sem, exE, exOk, Key.among, Cont.rows, rowsOf, rowsOfL, capsOn, false_or, or_true, true_or, or_false, List.contains_cons, List.contains_nil, ↓reduceIte]; refine hK' _ _ ?_; clear hK' K'; simp only [List.nil_append, List.cons_append]
      refine DOps.consC fun K' hK' => ?_
      simp (disch := omega) only [go_sem, ↓reduceIte]
      refine OpX.app (r := 1002) (n := w.list.length) (L := [.d (.int .i64 (i : Int))]) (S := [76, 79, 90]) (by rfl) (by rfl) (by rfl) (by rfl) (by rfl) (by decide) se27 T3_ok (by rfl) (by rfl) (by simp only [go_sem, ↓reduceIte]) (by simp only [go_sem]) (by rfl) (by simp only [go_sem]) (by decide) (by simp only [List.length_singleton]; omega) (by simp only [List.length_singleton, go_sem]; omega) (.inl ⟨rfl, rfl⟩) (by rfl) (by rfl) (by decide) (by simp only [leadOnly, go_sem, rowsOf, exE, exOk, Key.among, Cont.rows, rowsOf, rowsOfL, capsOn, false_or, or_true, true_or, or_false, List.contains_cons, List.contains_nil, ↓reduceIte]) (by simp only [go_sem]) (by rfl) (by rfl) (by simp only [go_sem, dl_rows, exE, exOk, Key.among, Cont.rows, rowsOf, rowsOfL, capsOn, false_or, or_true, true_or, or_false, List.contains_cons, List.contains_nil, ↓reduceIte]) ?_
      simp (disch := omega) only [go_sem, ↓reduceIte]; refine hK' _ _ ?_; clear hK' K'; simp only [List.nil_append, List.cons_append]
      iterate 6 (refine DOps.consU fun K' hK' => ?_; simp (disch := omega) only [go_sem, exE, exOk, Key.among, Cont.rows, rowsOf, rowsOfL, capsOn, false_or, or_true, true_or, or_false, List.contains_cons, List.contains_nil, dl_rows, ↓reduceIte]; refine hK' _ _ ?_; clear hK' K'; simp only [List.nil_append, List.cons_append])
      refine DOps.consC fun K' hK' => ?_
      simp (disch := omega) only [go_sem, ↓reduceIte]
      refine OpX.call (by rfl) (by rfl) (by kernel_rfl) (m_rate_ratio_ok o.Num o.Den _ hra) (by exact ⟨rfl, rfl, trivial⟩) (by simp only [go_sem, ↓reduceIte]) (by simp only [go_sem]) (by simp only [go_sem, exE, exOk, Key.among, Cont.rows, rowsOf, rowsOfL, capsOn, false_or, or_true, true_or, or_false, List.contains_cons, List.contains_nil, dl_rows, ↓reduceIte]) ?_
      simp (disch := omega) only [go_sem, ↓reduceIte]; refine hK' _ _ ?_; clear hK' K'; simp only [List.nil_append, List.cons_append]
      refine DOps.consC fun K' hK' => ?_
      simp (disch := omega) only [go_sem, ↓reduceIte]
      refine OpX.call (by rfl) (by rfl) (by kernel_rfl) (m_rate_times_ok w.rate (ratioN o.Num o.Den) _ hti) (by exact ⟨rfl, rfl, trivial⟩) (by simp only [go_sem, ↓reduceIte]) (by simp only [go_sem]) (by simp only [go_sem, exE, exOk, Key.among, Cont.rows, rowsOf, rowsOfL, capsOn, false_or, or_true, true_or, or_false, List.contains_cons, List.contains_nil, dl_rows, ↓reduceIte]) ?_
      simp (disch := omega) only [go_sem, ↓reduceIte]; refine hK' _ _ ?_; clear hK' K'; simp only [List.nil_append, List.cons_append]
      iterate 3 (refine DOps.consU fun K' hK' => ?_; simp (disch := omega) only [go_sem, exE, exOk, Key.among, Cont.rows, rowsOf, rowsOfL, capsOn, false_or, or_true, true_or, or_false, List.contains_cons, List.contains_nil, dl_rows, ↓reduceIte]; refine hK' _ _ ?_; clear hK' K'; simp only [List.nil_append, List.cons_append])
      refine DOps.stop (by kernel_rfl) ?_
      have hlst : lstD 1 (lenc (PD.int .i64) (w.list ++ [(i : Int)])) = .imm 1 (lenc (PD.int .i64) (w.list ++ [(i : Int)])) := by
        cases w.list <;> rfl
      have hpd : Walk.pd ⟨w.list ++ [(i : Int)], timesN w.rate (ratioN o.Num o.Den), o.To⟩ = .agg [.imm 1 (lenc (PD.int .i64) (w.list ++ [(i : Int)])), .int .i64 (timesN w.rate (ratioN o.Num o.Den)).Num, .int .i64 (timesN w.rate (ratioN o.Num o.Den)).Den, .int .i64 o.To] := by
        simp only [Walk.pd, hlst]
      refine AOps.sub (τ := ⟨[(1, .dptr 1 [.int .i64 length] 0 0), (2, .dptr 1 [.int .i64 frm] 0 0), (3, .dptr 1 [.bool rounds] 0 0), (5, .ptr 2 0 0), (7, .ptr 4 0 0), (8, .ptr 1000 0 0), (35, .d (.imm 4 (lenc Offer.pd m.offers))), (36, .d (.int .i64 m.offers.length)), (37, .d (.int .i64 i)), (73, .func (.func 94) (capsOn m frm length rounds)), (90, .d (Walk.pd ⟨w.list ++ [(i : Int)], timesN w.rate (ratioN o.Num o.Den), o.To⟩))],
        heapIn m frm length rounds l m.n.toNat (s.set w.to.toNat true) w, [.func (.func 95) [.ptr 2 0 0, .ptr 1000 0 0]], some (l, all, xs ++ lenc Walk.pd (ysOf m.offers frm length rounds k w s i), true)⟩)
        (Sub.cv ⟨rfl, rfl, rfl, rfl, rfl, trivial⟩ ⟨.inl ⟨leV_refl _, trivial⟩, .inl ⟨leV_refl _, trivial⟩, .inl ⟨leV_refl _, trivial⟩, .inl ⟨leV_refl _, rfl⟩, .inl ⟨leV_refl _, rfl⟩, .inl ⟨leV_refl _, rfl⟩, .inl ⟨leV_refl _, trivial⟩, .inl ⟨leV_refl _, trivial⟩, .inl ⟨leV_refl _, trivial⟩, .inl ⟨leV_refl _, by simp only [heapIn, capsOn, go_sem, ↓reduceIte]⟩, .inr ⟨.d (Walk.pd ⟨w.list ++ [(i : Int)], timesN w.rate (ratioN o.Num o.Den), o.To⟩), ?_, leV_refl _, ?_⟩, trivial⟩ (heapIn_refs ..) ⟨rfl, by simp only [heapIn, go_sem, ↓reduceIte], rfl⟩) ?_
      · rw [hpd]
        have htk : (w.list ++ [(i : Int)]).take (w.list.length + 1) = w.list ++ [(i : Int)] := List.take_of_length_le (by simp)
        simp only [go_sem, htk, ↓reduceIte]
      · intro r hr
        simp only [go_sem, rowsOf, rowsOfL, List.mem_cons, List.not_mem_nil, or_false, ↓reduceIte] at hr
        subst hr; rfl
      have hadd : addOf m.offers frm length rounds k w s (o, i) = walkOn m.offers frm length rounds k ⟨w.list ++ [(i : Int)], timesN w.rate (ratioN o.Num o.Den), o.To⟩ (s.set w.to.toNat true) := by
        simp only [addOf, hb, Bool.false_eq_true, if_false]
      have hok : OnOk m length ⟨w.list ++ [(i : Int)], timesN w.rate (ratioN o.Num o.Den), o.To⟩ (s.set w.to.toNat true) k := by
        have hk1 := hk.k1
        have htb := timesN_bounds (p := w.rate) (q := ratioN o.Num o.Den) (a := 50 ^ w.list.length) (b := 50) ⟨hk.num1, hk.num2⟩ ⟨hk.den1, hk.den2⟩ ⟨by omega, by omega⟩ ⟨by omega, by omega⟩
        have hll : (w.list ++ [(i : Int)]).length = w.list.length + 1 := by simp
        have hlg : 0 ≤ length := by
          simp only [walksPre, Bool.and_eq_true, decide_eq_true_eq] at hpre
          omega
        refine ⟨by rw [hll]; omega, by omega, by rw [List.length_set]; exact hn, hg3, hg4, htb.1, ?_, htb.2.2.1, ?_, ?_⟩
        · rw [hll, Int.pow_succ]; exact htb.2.1
        · rw [hll, Int.pow_succ]; exact htb.2.2.2
        · rw [hll]
          rcases Bool.eq_false_or_eq_true ((s.set w.to.toNat true).getD o.To.toNat false) with c | c
          · right
            have hb2 := hb
            simp only [walkSkip, c, Bool.true_and, Bool.or_eq_false_iff, Bool.not_eq_false', Bool.and_eq_true, decide_eq_true_eq] at hb2
            have := hb2.2.1.2
            omega
          · left
            rw [hse, c]
      have hpf : (xs ++ lenc Walk.pd (ysOf m.offers frm length rounds k w s i)) ++ lenc Walk.pd (walkOn m.offers frm length rounds k ⟨w.list ++ [(i : Int)], timesN w.rate (ratioN o.Num o.Den), o.To⟩ (s.set w.to.toNat true)) <+: all := by
        obtain ⟨r, hr⟩ := ysOf_pre (offers := m.offers) (frm := frm) (length := length) (rounds := rounds) (k := k) (w := w) (s := s) (i := i + 1)
        rw [ysOf_succ ho, hadd] at hr
        refine List.IsPrefix.trans ⟨lenc Walk.pd r, ?_⟩ hall
        rw [hr]; simp [lenc]
      simp only [heapIn]
      refine AOps.consC (by simp only [go_sem, ↓reduceIte]) fun K' hK' => ?_
      simp (disch := omega) only [go_sem, ↓reduceIte]
      refine OpT.callG (H := heapOn m frm length rounds l m.n.toNat (s.set w.to.toNat true)) (g := id) (gc := some (l, all, xs ++ lenc Walk.pd (ysOf m.offers frm length rounds k w s i), true)) (by rfl) (by rfl) (by rfl) (by kernel_rfl) (ih _ _ _ hok hpf) (Hand.of ?_ ?_) (.inr rfl) ?_ (by simp only [go_sem, ↓reduceIte]) ?_
      · simp only [go_sem, heapOn, capsOn, Row.ren, renL, PV.ren, dl_ren, id, ↓reduceIte]
      · simp only [go_sem, heapOn, id, ↓reduceIte]
      · simp only [go_sem, heapOn, capsOn, handsOk, handOk, id, ↓reduceIte]
      rintro p H' g' ⟨rfl, hp⟩
      refine ⟨id, Back.of ?_ ?_ ?_, ?_, ?_, ?_⟩
      · simp only [go_sem, heapOn, capsOn, Row.ren, renL, PV.ren, dl_ren, id, dl_length, dl_clean, clean, cleanL, ↓reduceIte]
      · simp only [go_sem, heapOn, id, ↓reduceIte]
      · simp only [go_sem, heapOn, id, ↓reduceIte]
      · rcases hp with ⟨rfl, _⟩ | ⟨_, _, _, rfl, _⟩ <;> trivial
      · rcases hp with ⟨rfl, _⟩ | ⟨_, _, _, rfl, _⟩ <;> trivial
      rcases hp with ⟨rfl, rfl⟩ | ⟨part, rest, hpr, rfl, rfl⟩
      · simp only [go_sem, heapOn, capsOn, hmerge, Row.ren, renL, PV.ren, dl_ren, id, ghBack, ↓reduceIte]; refine hK' _ ?_; clear hK' K'
        iterate 1 (refine AOps.consU fun K' hK' => ?_; simp (disch := omega) only [go_sem, ↓reduceIte]; refine hK' _ ?_; clear hK' K')
        refine AOps.nil ?_
        simp only [Post.then]
        refine hK2 _ ?_; clear hK2 K2
        refine AWp.cond (b := false) (by rfl) (fun hb => by cases hb) (fun _ => ?_)
        refine AWp.skip ?_
        simp only [Post.then, Post.inBlock]
        refine hK _ ?_; clear hK K
        refine AWp.reg ?_
        iterate 2 (refine AOps.consU fun K' hK' => ?_; simp (disch := omega) only [go_sem, ↓reduceIte]; refine hK' _ ?_; clear hK' K')
        refine AOps.nil ?_
        simp only [Post.then]
        refine hyd _ ?_
        have hwi : IntKind.i64.wrap ((i : Int) + 1) = ((i + 1 : Nat) : Int) := by
          simp only [walksPre, Bool.and_eq_true, decide_eq_true_eq] at hpre
          rw [wrap_i64_eq (by omega)]; omega
        rw [hwi]
        exact Sub.mk ⟨rfl, rfl, rfl, rfl, rfl, rfl, rfl, rfl, rfl, trivial⟩ ⟨rfl, rfl, rfl, rfl, rfl, trivial⟩ ⟨trivial, trivial, trivial, rfl, rfl, rfl, trivial, trivial, trivial, trivial⟩ (heapIn_refs ..) ⟨rfl, by simp only [headOn, heapIn, go_sem, ↓reduceIte], by simp only [headOn, ysOf_succ ho, hadd]; simp [lenc]⟩
      · simp only [go_sem, heapOn, capsOn, hmerge, Row.ren, renL, PV.ren, dl_ren, id, ghBack, ↓reduceIte]; refine hK' _ ?_; clear hK' K'
        iterate 1 (refine AOps.consU fun K' hK' => ?_; simp (disch := omega) only [go_sem, ↓reduceIte]; refine hK' _ ?_; clear hK' K')
        refine AOps.nil ?_
        simp only [Post.then]
        refine hK2 _ ?_; clear hK2 K2
        refine AWp.cond (b := true) (by rfl) (fun _ => ?_) (fun hb => by cases hb)
        refine AWp.seq fun K2 hK2 => AWp.reg ?_
        iterate 1 (refine AOps.consU fun K' hK' => ?_; simp (disch := omega) only [go_sem, ↓reduceIte]; refine hK' _ ?_; clear hK' K')
        refine AOps.nil ?_
        simp only [Post.then]
        refine hK2 _ ?_; clear hK2 K2
        refine AWp.ret ?_
        simp only [Post.then, Post.inBlock]
        obtain ⟨r, hr⟩ := ysOf_pre (offers := m.offers) (frm := frm) (length := length) (rounds := rounds) (k := k) (w := w) (s := s) (i := i + 1)
        refine on_leave (c := false) (by rfl) rfl hn ⟨ht1, ht2⟩ hf ⟨⟨rfl, rfl, rfl, rfl, trivial⟩, .inr ⟨lenc Walk.pd (ysOf m.offers frm length rounds k w s i) ++ part, rest ++ lenc Walk.pd r, ?_, rfl, ?_⟩⟩
        · rw [hr, ysOf_succ ho, hadd]
          have : lenc Walk.pd (ysOf m.offers frm length rounds k w s i ++ walkOn m.offers frm length rounds k ⟨w.list ++ [(i : Int)], timesN w.rate (ratioN o.Num o.Den), o.To⟩ (s.set w.to.toNat true) ++ r) = lenc Walk.pd (ysOf m.offers frm length rounds k w s i) ++ lenc Walk.pd (walkOn m.offers frm length rounds k ⟨w.list ++ [(i : Int)], timesN w.rate (ratioN o.Num o.Den), o.To⟩ (s.set w.to.toNat true)) ++ lenc Walk.pd r := by simp [lenc]
          rw [this, hpr]; simp
        · simp
end Go.Pv.Tryd

set_option linter.unusedSimpArgs false
set_option linter.unusedVariables false
namespace Go.Pv.Tryd
open Go.Proofs Go.Pv
theorem on_fn (m : Market) (frm length : Int) (rounds : Bool) (l : Nat) (all : List PD) (hpre : walksPre m frm length rounds = true) : ∀ (k : Nat) (w : Walk) (s : List Bool) (xs : List PD), OnOk m length w s k →
    xs ++ lenc Walk.pd (walkOn m.offers frm length rounds k w s) <+: all →
    FnG Tryd.prog G 94 (.d w.pd :: capsOn m frm length rounds) (heapOn m frm length rounds l m.n.toNat s) (some (l, all, xs, true)) (OnPost (lenc Walk.pd (walkOn m.offers frm length rounds k w s)) (heapOn m frm length rounds l m.n.toNat s) l all xs)
  | 0, w, s, xs, hk, _ => absurd hk.k2 (by omega)
  | k + 1, w, s, xs, hk, hall => by
    by_cases he : (w.list.length : Int) = length
    · exact on_end m frm length rounds l all k w s xs hk he hall
    · exact on_step m frm length rounds l all hpre k w s xs hk he (fun w' s' xs' => on_fn m frm length rounds l all hpre k w' s' xs') hall
@[go_sem] def walkCaps (m : Market) (frm length : Int) (rounds : Bool) : List PV := [.dptr 2 [Market.pd m] 0 0, .dptr 1 [.int .i64 length] 0 0, .dptr 1 [.int .i64 frm] 0 0, .dptr 1 [.bool rounds] 0 0]
theorem walks_seq (m : Market) (frm length : Int) (rounds : Bool) (hpre : walksPre m frm length rounds = true) : SeqFn Tryd.prog G 93 (walkCaps m frm length rounds) (lenc Walk.pd (walksL m frm length rounds)) := by
  intro l
  have hp := hpre
  simp only [walksPre, Bool.and_eq_true, decide_eq_true_eq] at hp
  obtain ⟨⟨hp1, hp2, hp3, hp4, hp5, hp6⟩, hp7⟩ := hp
  have hrep : lenc PD.bool (List.replicate m.n.toNat false) = List.replicate m.n.toNat (PD.bool false) := by simp [lenc]
  have hok : OnOk m length ⟨[], ⟨1, 1⟩, frm⟩ (List.replicate m.n.toNat false) (length.toNat + 1) := by
    refine ⟨by simp, by omega, by simp, hp3, hp4, by simp, by simp, by simp, by simp, .inl ?_⟩
    show (List.replicate m.n.toNat false)[frm.toNat]? = some false
    rw [List.getElem?_replicate, if_pos (by omega)]
  refine FnG.less (R := fun p _ g' => p = .tuple [] ∧ (g' = some (l, lenc Walk.pd (walksL m frm length rounds), lenc Walk.pd (walksL m frm length rounds), true) ∨ ∃ part rest, lenc Walk.pd (walksL m frm length rounds) = part ++ rest ∧ g' = some (l, lenc Walk.pd (walksL m frm length rounds), part, false))) ?_ ?_
  rotate_left
  · rintro p H' g' ⟨rfl, h⟩
    exact ⟨[], trivial, trivial, trivial, rfl, h⟩
  refine FnG.introD Tryd.func93 (by rfl) (by rw [Tryd.ntmps93]; simp [walkCaps]) ?_
  rw [Tryd.ntmps93]
  simp only [argEnv, walkCaps, Nat.reduceAdd]
  refine AWp.seq fun K hK => AWp.reg ?_
  iterate 1 (refine AOps.consU fun K' hK' => ?_; simp (disch := omega) only [go_sem, ↓reduceIte]; refine hK' _ ?_; clear hK' K')
  refine AOps.nil ?_
  simp only [Post.then]
  refine hK _ ?_; clear hK K
  refine AWp.seq fun K hK => AWp.reg ?_
  iterate 5 (refine AOps.consU fun K' hK' => ?_; simp (disch := omega) only [go_sem, ↓reduceIte]; refine hK' _ ?_; clear hK' K')
  refine AOps.nil ?_
  simp only [Post.then]
  refine hK _ ?_; clear hK K
  refine AWp.seq fun K hK => AWp.reg ?_
  iterate 1 (refine AOps.consU fun K' hK' => ?_; simp (disch := omega) only [go_sem, ↓reduceIte]; refine hK' _ ?_; clear hK' K')
  refine AOps.nil ?_
  simp only [Post.then]
  refine hK _ ?_; clear hK K
  refine AWp.seq fun K hK => AWp.reg ?_
  iterate 2 (refine AOps.consU fun K' hK' => ?_; simp (disch := omega) only [go_sem, ↓reduceIte]; refine hK' _ ?_; clear hK' K')
  refine AOps.nil ?_
  simp only [Post.then]
  refine hK _ ?_; clear hK K
  refine AWp.reg ?_
  iterate 4 (refine AOps.consU fun K' hK' => ?_; simp (disch := omega) only [go_sem, ↓reduceIte]; refine hK' _ ?_; clear hK' K')
  refine AOps.consC (by simp only [go_sem, ↓reduceIte]) fun K' hK' => ?_
  simp (disch := omega) only [go_sem, ↓reduceIte]
  have hf := on_fn m frm length rounds l (lenc Walk.pd (walksL m frm length rounds)) hpre (length.toNat + 1) ⟨[], ⟨1, 1⟩, frm⟩ (List.replicate m.n.toNat false) [] hok (by rw [List.nil_append]; exact List.prefix_refl _)
  refine OpT.callG (H := heapOn m frm length rounds l m.n.toNat (List.replicate m.n.toNat false)) (g := renOf [(1, 1000), (2, 1002), (3, 1001), (4, 1003)]) (gc := some (l, lenc Walk.pd (walksL m frm length rounds), [], true)) (by rfl) (by rfl) (by rfl) (by kernel_rfl) hf (Hand.of ?_ ?_) (.inr rfl) ?_ (by simp only [go_sem, ↓reduceIte]) ?_
  · simp only [go_sem, heapOn, capsOn, Row.ren, renL, PV.ren, dl_ren, Walk.pd, ↓reduceIte]
  · simp only [go_sem, heapOn, ↓reduceIte]
  · simp only [go_sem, handsOk, handOk, heapOn, capsOn, lstD, lenc, Walk.pd, List.map_nil, ↓reduceIte]
  rintro p H' g' ⟨rfl, hp⟩
  refine ⟨renOf [(1, 1000), (2, 1002), (3, 1001), (4, 1003)], Back.of ?_ ?_ ?_, ?_, ?_, ?_⟩
  · simp only [go_sem, heapOn, capsOn, Row.ren, renL, PV.ren, dl_ren, dl_length, dl_clean, clean, cleanL, ↓reduceIte]
  · simp only [go_sem, heapOn, ↓reduceIte]
  · simp only [go_sem, heapOn, ↓reduceIte]
  · rcases hp with ⟨rfl, _⟩ | ⟨_, _, _, rfl, _⟩ <;> trivial
  · rcases hp with ⟨rfl, _⟩ | ⟨_, _, _, rfl, _⟩ <;> trivial
  simp only [go_sem, heapOn, capsOn, hmerge, Row.ren, renL, PV.ren, dl_ren, ghBack, ↓reduceIte]; refine hK' _ ?_; clear hK' K'
  refine AOps.nil ?_
  simp only [Fin1]
  refine .inl ⟨.tuple [], ?_, by first | exact True.intro | rfl, rfl, ?_⟩
  · simp only [go_sem, Tryd.results93, ↓reduceIte]
  · rcases hp with ⟨_, rfl⟩ | ⟨part, rest, h1, _, rfl⟩
    · exact .inl rfl
    · exact .inr ⟨part, rest, h1, rfl⟩
theorem walks_fn (m : Market) (frm length : Int) (rounds : Bool) : PureFn Tryd.prog G 80 [.d (Market.pd m), .d (.int .i64 frm), .d (.int .i64 length), .d (.bool rounds)] (.func (.func 93) (walkCaps m frm length rounds)) := by
  refine PureFn.intro2 Tryd.func80 (by rfl) (by rw [Tryd.ntmps80]; simp) ?_
  rw [Tryd.ntmps80]
  simp only [argEnv, Nat.reduceAdd]
  refine AWp.seq fun K hK => AWp.reg ?_
  iterate 5 (refine AOps.consU fun K' hK' => ?_; simp (disch := omega) only [go_sem, ↓reduceIte]; refine hK' _ ?_; clear hK' K')
  refine AOps.nil ?_
  simp only [Post.then]
  refine hK _ ?_; clear hK K
  refine AWp.seq fun K hK => AWp.reg ?_
  iterate 2 (refine AOps.consU fun K' hK' => ?_; simp (disch := omega) only [go_sem, ↓reduceIte]; refine hK' _ ?_; clear hK' K')
  refine AOps.nil ?_
  simp only [Post.then]
  refine hK _ ?_; clear hK K
  refine AWp.ret ?_
  simp only [Go.Pv.Fin, Go.Pv.FinG]
  refine ⟨.func (.func 93) [.ptr 1000 0 0, .ptr 1002 0 0, .ptr 1001 0 0, .ptr 1003 0 0], ?_, True.intro, _, rfl, ?_⟩
  · simp only [go_sem, Tryd.results80, ↓reduceIte]
  · exact leV_refl _
end Go.Pv.Tryd



namespace Go.Pv.Tryd
open Go.Proofs Go.Pv
theorem m_rate_above_ok (a1 : Ratio) (b1 : Ratio) (r : Bool) (h : m_rate_above a1 b1 = some r) : PureFn Tryd.prog G 56 [.d (.agg [(.int .i64 a1.Num), (.int .i64 a1.Den)]), .d (.agg [(.int .i64 b1.Num), (.int .i64 b1.Den)])] (.d (.bool r)) := by
 unfold m_rate_above at h
 refine pf Tryd.func56 Tryd.ntmps56 ?_
 refine sg fun K k => ?_
 iterate 3 refine oo ?_
 refine AOps.nil (k _ ?_)
 refine sg fun K k => ?_
 iterate 12 refine oo ?_
 refine AOps.nil (k _ ?_)
 refine AWp.ret ?_
 cases h; exact rt
end Go.Pv.Tryd

namespace Go.Pv.Tryd
open Go.Proofs Go.Pv
theorem m_cmp_isNaN_ok (x1 : Int) (r : Bool) (h : m_cmp_isNaN x1 = some r) : PureFn Tryd.prog G 113 [.d (.int .i64 x1)] (.d (.bool r)) := by
 unfold m_cmp_isNaN at h
 refine pf Tryd.func113 Tryd.ntmps113 ?_
 refine sg fun K k => ?_
 refine oo ?_
 refine AOps.nil (k _ ?_)
 refine sg fun K k => ?_
 iterate 4 refine oo ?_
 refine AOps.nil (k _ ?_)
 refine AWp.ret ?_
 cases h; exact rt
end Go.Pv.Tryd

namespace Go.Pv.Tryd
open Go.Proofs Go.Pv
theorem m_cmp_Compare_ok (x1 : Int) (y1 : Int) (r : Int) (h : m_cmp_Compare x1 y1 = some r) : PureFn Tryd.prog G 97 [.d (.int .i64 x1), .d (.int .i64 y1)] (.d (.int .i64 r)) := by
 unfold m_cmp_Compare at h
 refine pf Tryd.func97 Tryd.ntmps97 ?_
 refine sg fun K k => ?_
 refine oo ?_
 refine AOps.nil (k _ ?_)
 refine sg fun K k => ?_
 refine oo ?_
 obtain ⟨r1, hx_1, h⟩ := bind_some h
 refine cl (m_cmp_isNaN_ok x1 _ hx_1) ?_
 refine oo ?_
 refine AOps.nil (k _ ?_)
 refine sg fun K k => ?_
 refine oo ?_
 obtain ⟨r2, hx_2, h⟩ := bind_some h
 refine cl (m_cmp_isNaN_ok y1 _ hx_2) ?_
 refine oo ?_
 refine AOps.nil (k _ ?_)
 refine AWp.seq fun _ K_3 => ?_
 refine sg fun K k => ?_
 refine oo ?_
 refine AOps.nil (k _ ?_)
 refine cd h (fun h => ?_) (fun h => ?_)
 ·refine AWp.seq fun _ K_5 => ?_
  refine sg fun K k => ?_
  refine oo ?_
  refine AOps.nil (k _ ?_)
  refine cd h (fun h => ?_) (fun h => ?_)
  ·refine sg fun K k => ?_
   refine oo ?_
   refine AOps.nil (k _ ?_)
   refine AWp.ret ?_
   cases h; exact rt
  ·refine AWp.skip ?_
   refine K_5 _ ?_
   refine sg fun K k => ?_
   refine oo ?_
   refine AOps.nil (k _ ?_)
   refine AWp.ret ?_
   cases h; exact rt
 ·refine AWp.skip ?_
  refine K_3 _ ?_
  refine AWp.seq fun _ K_7 => ?_
  refine sg fun K k => ?_
  refine oo ?_
  refine AOps.nil (k _ ?_)
  refine cd h (fun h => ?_) (fun h => ?_)
  ·refine sg fun K k => ?_
   refine oo ?_
   refine AOps.nil (k _ ?_)
   refine AWp.ret ?_
   cases h; exact rt
  ·refine AWp.skip ?_
   refine K_7 _ ?_
   refine AWp.seq fun _ K_9 => ?_
   refine sg fun K k => ?_
   iterate 3 refine oo ?_
   refine AOps.nil (k _ ?_)
   refine cd h (fun h => ?_) (fun h => ?_)
   ·refine sg fun K k => ?_
    refine oo ?_
    refine AOps.nil (k _ ?_)
    refine AWp.ret ?_
    cases h; exact rt
   ·refine AWp.skip ?_
    refine K_9 _ ?_
    refine AWp.seq fun _ K_11 => ?_
    refine sg fun K k => ?_
    iterate 3 refine oo ?_
    refine AOps.nil (k _ ?_)
    refine cd h (fun h => ?_) (fun h => ?_)
    ·refine sg fun K k => ?_
     refine oo ?_
     refine AOps.nil (k _ ?_)
     refine AWp.ret ?_
     cases h; exact rt
    ·refine AWp.skip ?_
     refine K_11 _ ?_
     refine sg fun K k => ?_
     refine oo ?_
     refine AOps.nil (k _ ?_)
     refine AWp.ret ?_
     cases h; exact rt
end Go.Pv.Tryd

namespace Go.Pv.Tryd
open Go.Proofs Go.Pv
theorem m_slices_Compare_ok (s11 : (List Int)) (s21 : (List Int)) (r : Int) (h : m_slices_Compare s11 s21 = some r) : PureFn Tryd.prog G 81 [.d (.imm 1 (lenc (PD.int .i64) s11)), .d (.imm 1 (lenc (PD.int .i64) s21))] (.d (.int .i64 r)) := by
 unfold m_slices_Compare at h
 refine pf Tryd.func81 Tryd.ntmps81 ?_
 refine sg fun K k => ?_
 refine oo ?_
 refine AOps.nil (k _ ?_)
 refine jm (ι := Unit) [0, 1] [] (fun i t => t) (fun i t => t) .inl h ?_ ?_
 ·intro _ hj_2 h
  refine sg fun K k => ?_
  iterate 3 refine oo ?_
  refine AOps.nil (k _ ?_)
  refine AWp.block ?_
  obtain ⟨x_7, hl_4, h2_5⟩ := bind_some hj_2
  refine lp (S := Int) [0, 1, 9, 10] [] (fun i t => (11, .d (.int .i64 i)) :: t) (fun i t => t) hl_4 ?_ ?_; exact sb; clear hl_4
  rintro v1 _ hb_6; unfold m_slices_Compare_l1 at hb_6; try dsimp only at hb_6
  try dsimp only
  refine sg fun K k => ?_
  refine oo ?_
  refine AOps.nil (k _ ?_)
  refine AWp.seq fun _ K_9 => ?_
  refine cd hb_6 (fun hb_6 => ?_) (fun hb_6 => ?_)
  ·refine AWp.skip ?_
   refine K_9 _ ?_
   refine AWp.seq fun _ K_11 => ?_
   refine AWp.block ?_
   refine sg fun K k => ?_
   obtain ⟨e1, ⟨f_12, f_13, f_14, f_15⟩, hb_6⟩ := idx_bind hb_6
   iterate 2 refine oo ?_
   refine oo ?_ (by intro K k; simp (disch := omega) only [go_sem, f_14, ↓reduceIte]; exact k)
   iterate 2 refine oo ?_
   refine AOps.nil (k _ ?_)
   refine AWp.seq fun _ K_16 => ?_
   refine sg fun K k => ?_
   iterate 4 refine oo ?_
   refine AOps.nil (k _ ?_)
   refine cd hb_6 (fun hb_6 => ?_) (fun hb_6 => ?_)
   ·refine sg fun K k => ?_
    refine oo ?_
    refine AOps.nil (k _ ?_)
    refine AWp.ret ?_
    refine lx hb_6 fun hx => ?_; cases hx; try dsimp only at h2_5
    cases h2_5; try dsimp only at h
    cases h; exact rt
   ·refine AWp.skip ?_
    refine K_16 _ ?_
    refine sg fun K k => ?_
    obtain ⟨e2, ⟨f_18, f_19, f_20, f_21⟩, hb_6⟩ := idx_bind hb_6
    iterate 3 refine oo ?_
    refine oo ?_ (by intro K k; simp (disch := omega) only [go_sem, f_20, ↓reduceIte]; exact k)
    refine oo ?_
    refine AOps.nil (k _ ?_)
    refine sg fun K k => ?_
    iterate 2 refine oo ?_
    obtain ⟨r1, hx_22, hb_6⟩ := bind_some hb_6
    refine cl (m_cmp_Compare_ok e1 e2 _ hx_22) ?_
    refine oo ?_
    refine AOps.nil (k _ ?_)
    refine sg fun K k => ?_
    iterate 2 refine oo ?_
    refine AOps.nil (k _ ?_)
    refine cd hb_6 (fun hb_6 => ?_) (fun hb_6 => ?_)
    ·refine sg fun K k => ?_
     iterate 2 refine oo ?_
     refine AOps.nil (k _ ?_)
     refine AWp.ret ?_
     refine lx hb_6 fun hx => ?_; cases hx; try dsimp only at h2_5
     cases h2_5; try dsimp only at h
     cases h; exact rt
    ·refine AWp.skip ?_
     refine K_11 _ ?_
     refine AWp.reg ?_
     iterate 2 refine oo ?_
     refine AOps.nil ?_
     exact ln hb_6 sb
  ·refine AWp.exit ?_
   refine lx hb_6 fun hx => ?_; cases hx; try dsimp only at h2_5
   exact ln h2_5 sb
 ·rintro _ h; dsimp only at h ⊢
  refine AWp.seq fun _ K_24 => ?_
  refine sg fun K k => ?_
  iterate 5 refine oo ?_
  refine AOps.nil (k _ ?_)
  refine cd h (fun h => ?_) (fun h => ?_)
  ·refine sg fun K k => ?_
   refine oo ?_
   refine AOps.nil (k _ ?_)
   refine AWp.ret ?_
   cases h; exact rt
  ·refine AWp.skip ?_
   refine K_24 _ ?_
   refine sg fun K k => ?_
   refine oo ?_
   refine AOps.nil (k _ ?_)
   refine AWp.ret ?_
   cases h; exact rt
end Go.Pv.Tryd

namespace Go.Pv.Tryd
open Go.Proofs Go.Pv
theorem m_rate_market_round_ok (m1 : Market) (r : (List Int)) (h : m_rate_market_round m1 = some r) : PureFn Tryd.prog G 54 [.d (.agg [(.int .i64 m1.n), (.imm 4 (lenc Offer.pd m1.offers))])] (.d (lstD 1 (lenc (PD.int .i64) r))) := by
 unfold m_rate_market_round at h
 refine pf Tryd.func54 Tryd.ntmps54 ?_
 refine sg fun K k => ?_
 iterate 2 refine oo ?_
 refine AOps.nil (k _ ?_)
 refine jm (ι := Unit) [] [] (fun i t => t) (fun i t => t) .inl h ?_ ?_
 ·intro _ hj_2 h
  refine sg fun K k => ?_
  refine oo ?_
  refine AOps.nil (k _ ?_)
  refine AWp.block ?_
  obtain ⟨x_7, hl_4, h2_5⟩ := bind_some hj_2
  refine lp (S := Int) [1] [1000] (fun i t => (3, .d (.int .i64 i)) :: t) (fun i t => t) hl_4 ?_ ?_; exact sb; clear hl_4
  rintro length1 _ hb_6; unfold m_rate_market_round_l1 at hb_6; try dsimp only at hb_6
  try dsimp only
  refine AWp.seq fun _ K_9 => ?_
  refine sg fun K k => ?_
  iterate 4 refine oo ?_
  refine AOps.nil (k _ ?_)
  refine cd hb_6 (fun hb_6 => ?_) (fun hb_6 => ?_)
  ·refine AWp.skip ?_
   refine K_9 _ ?_
   refine jm (ι := Unit) [1, 3] [1000] (fun i t => t) (fun i t => t) .inl hb_6 ?_ ?_
   ·intro _ hj_12 hb_6
    refine AWp.block ?_
    refine sg fun K k => ?_
    refine oo ?_
    refine AOps.nil (k _ ?_)
    refine jn (α := (List Int)) [1, 3] [1000] (fun i t => (4, .ptr 1001 0 0) :: t) (fun i t => (1001, ⟨27, 1, [.d (lstD 1 (lenc (PD.int .i64) i))]⟩) :: t) hj_12 ?_ ?_
    ·intro _ hj_14
     refine sg fun K k => ?_
     iterate 3 refine oo ?_
     refine AOps.nil (k _ ?_)
     refine AWp.block ?_
     obtain ⟨x_19, hl_16, h2_17⟩ := bind_some hj_14
     refine lp (S := (Int × (List Int))) [1, 3, 14] [1000] (fun i t => (4, .ptr 1001 0 0) :: (15, .d (.int .i64 i.1)) :: t) (fun i t => (1001, ⟨27, 1, [.d (lstD 1 (lenc (PD.int .i64) i.2))]⟩) :: t) hl_16 ?_ ?_; exact sb; clear hl_16
     rintro ⟨v1, c2⟩ _ hb_18; unfold m_rate_market_round_l2 at hb_18; try dsimp only at hb_18
     try dsimp only
     refine sg fun K k => ?_
     refine oo ?_
     refine AOps.nil (k _ ?_)
     refine AWp.seq fun _ K_21 => ?_
     refine cd hb_18 (fun hb_18 => ?_) (fun hb_18 => ?_)
     ·refine AWp.skip ?_
      refine K_21 _ ?_
      refine jn (α := (List Int)) [1, 3, 14, 15] [1000] (fun i t => (4, .ptr 1001 0 0) :: t) (fun i t => (1001, ⟨27, 1, [.d (lstD 1 (lenc (PD.int .i64) i))]⟩) :: t) hb_18 ?_ ?_
      ·intro _ hj_24
       refine AWp.block ?_
       refine sg fun K k => ?_
       iterate 2 refine oo ?_
       refine AOps.nil (k _ ?_)
       refine sg fun K k => ?_
       iterate 3 refine oo ?_
       obtain ⟨hg_25, hj_24⟩ := guardO_some hj_24
       refine AOps.consU fun K' hK' => ?_; simp (disch := omega) only [go_sem, ↓reduceIte]; refine OpT.call (by rfl) (by rfl) (by kernel_rfl) (walks_fn m1 v1 length1 true) (by exact ⟨rfl, rfl, rfl, rfl, trivial⟩) (by simp only [go_sem, ↓reduceIte]) ?_ (by simp only [go_sem]); simp only [go_sem, ↓reduceIte]; refine hK' _ ?_; clear hK' K'
       refine AOps.nil (k _ ?_)
       refine AWp.block ?_
       refine AWp.sub (τ := ⟨[(1, .ptr 1000 0 0), (3, .d (.int .i64 length1)), (4, .ptr 1001 0 0), (14, .d (.int .i64 m1.n)), (15, .d (.int .i64 v1)), (21, .func (.func 93) [.dptr 2 [(.agg [(.int .i64 m1.n), (.imm 4 (lenc Offer.pd m1.offers))])] 0 0, .dptr 1 [.int .i64 length1] 0 0, .dptr 1 [.int .i64 v1] 0 0, .dptr 1 [.bool true] 0 0])], [(1000, ⟨77, 2, [.d (.agg [(.int .i64 m1.n), (.imm 4 (lenc Offer.pd m1.offers))])]⟩), (1001, ⟨27, 1, [.d (lstD 1 (lenc (PD.int .i64) c2))]⟩)], [], none⟩) sb ?_
       obtain ⟨o_38, hl_39, h2_40⟩ := bind_some hj_24
       refine AWp.rangeL Walk.pd (walksL m1 v1 length1 true) (fun i_43 : (List Int) => [(1000, ⟨77, 2, [.d (.agg [(.int .i64 m1.n), (.imm 4 (lenc Offer.pd m1.offers))])]⟩), (1001, ⟨27, 1, [.d (lstD 1 (lenc (PD.int .i64) i_43))]⟩)]) 4 (fun i_43 : (List Int) => [(1000, ⟨77, 2, [.d (.agg [(.int .i64 m1.n), (.imm 4 (lenc Offer.pd m1.offers))])]⟩), (1001, ⟨27, 1, [.d (lstD 1 (lenc (PD.int .i64) i_43))]⟩)]) (m_rate_market_round_r3) c2 (by rfl) (by simp only [go_sem]) (by kernel_rfl) (walks_seq m1 v1 length1 true hg_25) rfl rfl (by rfl) (by decide) (by simp only [go_sem, clean, cleanL, dl_clean, ↓reduceIte]) (fun _ => by simp only [go_sem, clean, cleanL, dl_clean, ↓reduceIte]) (fun _ => by simp only [go_sem, clean, cleanL, dl_clean, ↓reduceIte]) hl_39 ?_ ?_ ?_
       ·rintro l_29 c4 x1 q_28 hraw_26
        have hb_27 := hraw_26
        unfold m_rate_market_round_r3 at hb_27
        try dsimp only at hb_27
        try dsimp only
        simp only [eput, ↓reduceIte, Nat.reduceEqDiff]
        refine AWp.reg ?_
        iterate 2 refine oo ?_
        refine AOps.nil ?_
        refine AWp.block ?_
        refine sg fun K k => ?_
        iterate 3 refine oo ?_
        obtain ⟨r1, hx_30, hb_27⟩ := bind_some hb_27
        refine cl (m_rate_above_ok x1.rate (⟨1, 1⟩ : Ratio) _ hx_30) ?_
        refine AOps.nil (k _ ?_)
        refine cd hb_27 (fun hb_27 => ?_) (fun hb_27 => ?_)
        ·refine jn (α := (List Int)) [1, 3, 14, 15, 22] [1000] (fun i t => (4, .ptr 1001 0 0) :: t) (fun i t => (1001, ⟨27, 1, [.d (lstD 1 (lenc (PD.int .i64) i))]⟩) :: t) hb_27 ?_ ?_
         ·intro _ hj_33
          refine sg fun K k => ?_
          iterate 3 refine oo ?_
          obtain ⟨b1, hc_34, hj_33⟩ := bind_some hj_33
          refine ct 6 [1, 3, 4, 6, 14, 15, 22] [1000, 1001, 1002] (fun  t => (35, .d (.bool b1)) :: t) ?_ ?_
          ·rcases bt ((c4).isEmpty) with hg_36 | hg_36
           ·rw [hg_36]
            rw [hg_36, cond_true] at hc_34
            iterate 6 refine oo ?_
            refine AOps.nil ?_
            cases hc_34
            exact sb
           ·rw [hg_36]
            rw [hg_36, cond_false] at hc_34
            iterate 3 refine oo ?_
            refine AOps.sub (τ := ⟨[(1, .ptr 1000 0 0), (3, .d (.int .i64 length1)), (4, .ptr 1001 0 0), (6, .ptr 1002 0 0), (14, .d (.int .i64 m1.n)), (15, .d (.int .i64 v1)), (22, .d (.agg [(lstD 1 (lenc (PD.int .i64) x1.list)), (.int .i64 x1.rate.Num), (.int .i64 x1.rate.Den), (.int .i64 x1.to)])), (29, .d (.bool false)), (30, .ptr 1002 0 0), (31, .d (.imm 1 (lenc (PD.int .i64) x1.list))), (32, .d (.imm 1 (lenc (PD.int .i64) c4)))], [(1000, ⟨77, 2, [.d (.agg [(.int .i64 m1.n), (.imm 4 (lenc Offer.pd m1.offers))])]⟩), (1001, ⟨27, 1, [.d (lstD 1 (lenc (PD.int .i64) c4))]⟩), (1002, ⟨83, 4, [.d (.agg [(lstD 1 (lenc (PD.int .i64) x1.list)), (.int .i64 x1.rate.Num), (.int .i64 x1.rate.Den), (.int .i64 x1.to)])]⟩)], [.func (.func 0) (envL [(1, .ptr 1000 0 0), (3, .d (.int .i64 length1)), (4, .ptr 1001 0 0), (14, .d (.int .i64 m1.n)), (15, .d (.int .i64 v1)), (21, .func (.func 93) [.dptr 2 [(.agg [(.int .i64 m1.n), (.imm 4 (lenc Offer.pd m1.offers))])] 0 0, .dptr 1 [.int .i64 length1] 0 0, .dptr 1 [.int .i64 v1] 0 0, .dptr 1 [.bool true] 0 0])])], none⟩) sc ?_
            obtain ⟨r2, hx_35, hc_34⟩ := bind_some hc_34
            refine cl (m_slices_Compare_ok x1.list c4 _ hx_35) ?_
            iterate 2 refine oo ?_
            refine AOps.nil ?_
            cases hc_34
            exact sb
          refine AOps.nil (k _ ?_)
          refine cd hj_33 (fun hj_33 => ?_) (fun hj_33 => ?_)
          ·refine AWp.reg ?_
           iterate 3 refine oo ?_
           refine AOps.nil ?_
           cases hj_33; exact sb
          ·refine AWp.skip ?_
           cases hj_33; exact sb
         ·rintro c5 hb_27; dsimp only at hb_27 ⊢
          refine AWp.exit ?_
          show _ = _ ∧ ∃ y, _ = some (Sum.inr y) ∧ _
          exact ⟨rfl, c5, hraw_26.trans hb_27.symm, sb⟩
        ·refine AWp.skip ?_
         show ∃ s, _ = some (Sum.inl s) ∧ _
         exact ⟨c4, hraw_26.trans hb_27.symm, sb⟩
       ·rintro c4 hx_41
        rw [hx_41] at h2_40
        try dsimp only at h2_40
        try dsimp only
        simp only [Post.then, Post.inBlock, ↓reduceIte, Nat.reduceEqDiff]
        cases h2_40; exact sb
       ·rintro c41 hy_42
        rw [hy_42] at h2_40
        try dsimp only at h2_40
        try dsimp only
        simp only [Post.then, Post.inBlock, ↓reduceIte, Nat.reduceEqDiff]
        cases h2_40; exact sb
      ·rintro c3 hb_18; dsimp only at hb_18 ⊢
       refine AWp.reg ?_
       iterate 2 refine oo ?_
       refine AOps.nil ?_
       exact ln hb_18 sb
     ·refine AWp.exit ?_
      refine lx hb_18 fun hx => ?_; cases hx; try dsimp only at h2_17
      cases h2_17; exact sb
    ·rintro c1 hj_12; dsimp only at hj_12 ⊢
     refine sg fun K k => ?_
     iterate 2 refine oo ?_
     refine AOps.nil (k _ ?_)
     refine cd hj_12 (fun hj_12 => ?_) (fun hj_12 => ?_)
     ·refine sg fun K k => ?_
      iterate 2 refine oo ?_
      refine AOps.nil (k _ ?_)
      refine AWp.ret ?_
      cases hj_12; try dsimp only at hb_6
      refine lx hb_6 fun hx => ?_; cases hx; try dsimp only at h2_5
      cases h2_5; try dsimp only at h
      cases h; exact rt
     ·refine AWp.skip ?_
      exact ln hj_12 sb
   ·rintro _ hb_6; dsimp only at hb_6 ⊢
    refine AWp.reg ?_
    iterate 3 refine oo ?_
    refine AOps.nil ?_
    exact ln hb_6 sb
  ·refine AWp.exit ?_
   refine lx hb_6 fun hx => ?_; cases hx; try dsimp only at h2_5
   exact ln h2_5 sb
 ·rintro _ h; dsimp only at h ⊢
  refine sg fun K k => ?_
  refine oo ?_
  refine AOps.nil (k _ ?_)
  refine AWp.ret ?_
  cases h; exact rt
end Go.Pv.Tryd

namespace Go.Pv.Tryd
open Go.Proofs Go.Pv
theorem m_rate_market_best_ok (m1 : Market) (from1 : Int) (to1 : Int) (r : (Walk × Bool)) (h : m_rate_market_best m1 from1 to1 = some r) : PureFn Tryd.prog G 55 [.d (.agg [(.int .i64 m1.n), (.imm 4 (lenc Offer.pd m1.offers))]), .d (.int .i64 from1), .d (.int .i64 to1)] (.tuple [.d (.agg [(lstD 1 (lenc (PD.int .i64) r.1.list)), (.int .i64 r.1.rate.Num), (.int .i64 r.1.rate.Den), (.int .i64 r.1.to)]), .d (.bool r.2)]) := by
 unfold m_rate_market_best at h
 refine pf Tryd.func55 Tryd.ntmps55 ?_
 refine sg fun K k => ?_
 iterate 4 refine oo ?_
 refine AOps.nil (k _ ?_)
 refine AWp.seq fun _ K_1 => ?_
 refine sg fun K k => ?_
 iterate 3 refine oo ?_
 refine AOps.nil (k _ ?_)
 refine cd h (fun h => ?_) (fun h => ?_)
 ·refine sg fun K k => ?_
  iterate 4 refine oo ?_
  refine AOps.nil (k _ ?_)
  refine AWp.ret ?_
  cases h; exact rt
 ·refine AWp.skip ?_
  refine K_1 _ ?_
  refine sg fun K k => ?_
  iterate 5 refine oo ?_
  refine AOps.nil (k _ ?_)
  refine jn (α := (Walk × Bool)) [6] [1002] (fun i t => (8, .ptr 1003 0 0) :: (9, .ptr 1004 0 0) :: t) (fun i t => (1003, ⟨83, 4, [.d (.agg [(lstD 1 (lenc (PD.int .i64) i.1.list)), (.int .i64 i.1.rate.Num), (.int .i64 i.1.rate.Den), (.int .i64 i.1.to)])]⟩) :: (1004, ⟨4, 1, [.d (.bool i.2)]⟩) :: t) h ?_ ?_
  ·intro _ hj_4
   refine sg fun K k => ?_
   refine oo ?_
   refine AOps.nil (k _ ?_)
   refine AWp.block ?_
   obtain ⟨x_9, hl_6, h2_7⟩ := bind_some hj_4
   refine lp (S := (Int × Walk × Bool)) [1, 3, 5, 6] [1000, 1001, 1002] (fun i t => (8, .ptr 1003 0 0) :: (9, .ptr 1004 0 0) :: (10, .d (.int .i64 i.1)) :: t) (fun i t => (1003, ⟨83, 4, [.d (.agg [(lstD 1 (lenc (PD.int .i64) i.2.1.list)), (.int .i64 i.2.1.rate.Num), (.int .i64 i.2.1.rate.Den), (.int .i64 i.2.1.to)])]⟩) :: (1004, ⟨4, 1, [.d (.bool i.2.2)]⟩) :: t) hl_6 ?_ ?_; exact sb; clear hl_6
   rintro ⟨length1, c3, c4⟩ _ hb_8; unfold m_rate_market_best_l1 at hb_8; try dsimp only at hb_8
   try dsimp only
   refine AWp.seq fun _ K_11 => ?_
   refine sg fun K k => ?_
   iterate 4 refine oo ?_
   refine AOps.nil (k _ ?_)
   refine cd hb_8 (fun hb_8 => ?_) (fun hb_8 => ?_)
   ·refine AWp.skip ?_
    refine K_11 _ ?_
    refine jn (α := (Walk × Bool)) [1, 3, 5, 6, 10] [1000, 1001, 1002] (fun i t => (8, .ptr 1003 0 0) :: (9, .ptr 1004 0 0) :: t) (fun i t => (1003, ⟨83, 4, [.d (.agg [(lstD 1 (lenc (PD.int .i64) i.1.list)), (.int .i64 i.1.rate.Num), (.int .i64 i.1.rate.Den), (.int .i64 i.1.to)])]⟩) :: (1004, ⟨4, 1, [.d (.bool i.2)]⟩) :: t) hb_8 ?_ ?_
    ·intro _ hj_14
     refine AWp.block ?_
     refine sg fun K k => ?_
     iterate 3 refine oo ?_
     obtain ⟨hg_15, hj_14⟩ := guardO_some hj_14
     refine AOps.consU fun K' hK' => ?_; simp (disch := omega) only [go_sem, ↓reduceIte]; refine OpT.call (by rfl) (by rfl) (by kernel_rfl) (walks_fn m1 from1 length1 false) (by exact ⟨rfl, rfl, rfl, rfl, trivial⟩) (by simp only [go_sem, ↓reduceIte]) ?_ (by simp only [go_sem]); simp only [go_sem, ↓reduceIte]; refine hK' _ ?_; clear hK' K'
     refine AOps.nil (k _ ?_)
     refine AWp.block ?_
     refine AWp.sub (τ := ⟨[(1, .d (.int .i64 from1)), (3, .ptr 1000 0 0), (5, .ptr 1001 0 0), (6, .ptr 1002 0 0), (8, .ptr 1003 0 0), (9, .ptr 1004 0 0), (10, .d (.int .i64 length1)), (27, .func (.func 93) [.dptr 2 [(.agg [(.int .i64 m1.n), (.imm 4 (lenc Offer.pd m1.offers))])] 0 0, .dptr 1 [.int .i64 length1] 0 0, .dptr 1 [.int .i64 from1] 0 0, .dptr 1 [.bool false] 0 0])], [(1000, ⟨77, 2, [.d (.agg [(.int .i64 m1.n), (.imm 4 (lenc Offer.pd m1.offers))])]⟩), (1001, ⟨3, 1, [.d (.int .i64 to1)]⟩), (1002, ⟨83, 4, [.d (.agg [.nilslice, (.int .i64 0), (.int .i64 0), (.int .i64 0)])]⟩), (1003, ⟨83, 4, [.d (.agg [(lstD 1 (lenc (PD.int .i64) c3.list)), (.int .i64 c3.rate.Num), (.int .i64 c3.rate.Den), (.int .i64 c3.to)])]⟩), (1004, ⟨4, 1, [.d (.bool c4)]⟩)], [], none⟩) sb ?_
     obtain ⟨o_26, hl_27, h2_28⟩ := bind_some hj_14
     refine AWp.rangeL Walk.pd (walksL m1 from1 length1 false) (fun i_31 : (Walk × Bool) => [(1000, ⟨77, 2, [.d (.agg [(.int .i64 m1.n), (.imm 4 (lenc Offer.pd m1.offers))])]⟩), (1001, ⟨3, 1, [.d (.int .i64 to1)]⟩), (1002, ⟨83, 4, [.d (.agg [.nilslice, (.int .i64 0), (.int .i64 0), (.int .i64 0)])]⟩), (1003, ⟨83, 4, [.d (.agg [(lstD 1 (lenc (PD.int .i64) i_31.1.list)), (.int .i64 i_31.1.rate.Num), (.int .i64 i_31.1.rate.Den), (.int .i64 i_31.1.to)])]⟩), (1004, ⟨4, 1, [.d (.bool i_31.2)]⟩)]) 0 (fun i_31 : (Walk × Bool) => [(1000, ⟨77, 2, [.d (.agg [(.int .i64 m1.n), (.imm 4 (lenc Offer.pd m1.offers))])]⟩), (1001, ⟨3, 1, [.d (.int .i64 to1)]⟩), (1002, ⟨83, 4, [.d (.agg [.nilslice, (.int .i64 0), (.int .i64 0), (.int .i64 0)])]⟩), (1003, ⟨83, 4, [.d (.agg [(lstD 1 (lenc (PD.int .i64) i_31.1.list)), (.int .i64 i_31.1.rate.Num), (.int .i64 i_31.1.rate.Den), (.int .i64 i_31.1.to)])]⟩), (1004, ⟨4, 1, [.d (.bool i_31.2)]⟩)]) (m_rate_market_best_r2 to1) (c3, c4) (by rfl) (by simp only [go_sem]) (by kernel_rfl) (walks_seq m1 from1 length1 false hg_15) rfl rfl (by rfl) (by decide) (by simp only [go_sem, clean, cleanL, dl_clean, ↓reduceIte]) (fun _ => by simp only [go_sem, clean, cleanL, dl_clean, ↓reduceIte]) (fun _ => by simp only [go_sem, clean, cleanL, dl_clean, ↓reduceIte]) hl_27 ?_ ?_ ?_
     ·rintro l_19 ⟨c7, c8⟩ x1 q_18 hraw_16
      have hb_17 := hraw_16
      unfold m_rate_market_best_r2 at hb_17
      try dsimp only at hb_17
      try dsimp only
      simp only [eput, ↓reduceIte, Nat.reduceEqDiff]
      refine AWp.reg ?_
      iterate 2 refine oo ?_
      refine AOps.nil ?_
      refine AWp.block ?_
      refine sg fun K k => ?_
      iterate 5 refine oo ?_
      obtain ⟨b1, hc_20, hb_17⟩ := bind_some hb_17
      refine ct 10 [8, 9, 11] [1000, 1001, 1002, 1003, 1004, 1005] (fun  t => (43, .d (.bool b1)) :: t) ?_ ?_
      ·rcases bt (decide (x1.to = to1)) with hg_24 | hg_24
       ·rw [hg_24]
        rw [hg_24, cond_true] at hc_20
        iterate 3 refine oo ?_
        obtain ⟨b2, hc_21, hc_20⟩ := bind_some hc_20
        refine ct 6 [8, 9, 11, 33] [1000, 1001, 1002, 1003, 1004, 1005] (fun  t => (42, .d (.bool b2)) :: t) ?_ ?_
        ·rcases bt (!c8) with hg_23 | hg_23
         ·rw [hg_23]
          rw [hg_23, cond_true] at hc_21
          iterate 6 refine oo ?_
          refine AOps.nil ?_
          cases hc_21
          exact sb
         ·rw [hg_23]
          rw [hg_23, cond_false] at hc_21
          iterate 4 refine oo ?_
          obtain ⟨r1, hx_22, hc_21⟩ := bind_some hc_21
          refine cl (m_rate_above_ok x1.rate c7.rate _ hx_22) ?_
          refine oo ?_
          refine AOps.nil ?_
          cases hc_21
          exact sb
        refine oo ?_
        refine AOps.nil ?_
        cases hc_20
        exact sb
       ·rw [hg_24]
        rw [hg_24, cond_false] at hc_20
        iterate 10 refine oo ?_
        refine AOps.nil ?_
        cases hc_20
        exact sb
      refine AOps.nil (k _ ?_)
      refine cd hb_17 (fun hb_17 => ?_) (fun hb_17 => ?_)
      ·refine AWp.reg ?_
       iterate 3 refine oo ?_
       refine AOps.nil ?_
       show ∃ s, _ = some (Sum.inl s) ∧ _
       exact ⟨(x1, true), hraw_16.trans hb_17.symm, sb⟩
      ·refine AWp.skip ?_
       show ∃ s, _ = some (Sum.inl s) ∧ _
       exact ⟨(c7, c8), hraw_16.trans hb_17.symm, sb⟩
     ·rintro ⟨c7, c8⟩ hx_29
      rw [hx_29] at h2_28
      try dsimp only at h2_28
      try dsimp only
      simp only [Post.then, Post.inBlock, ↓reduceIte, Nat.reduceEqDiff]
      cases h2_28; exact sb
     ·rintro ⟨c71, c81⟩ hy_30
      rw [hy_30] at h2_28
      try dsimp only at h2_28
      try dsimp only
      simp only [Post.then, Post.inBlock, ↓reduceIte, Nat.reduceEqDiff]
      cases h2_28
    ·rintro ⟨c5, c6⟩ hb_8; dsimp only at hb_8 ⊢
     refine AWp.reg ?_
     iterate 3 refine oo ?_
     refine AOps.nil ?_
     exact ln hb_8 sb
   ·refine AWp.exit ?_
    refine lx hb_8 fun hx => ?_; cases hx; try dsimp only at h2_7
    cases h2_7; exact sb
  ·rintro ⟨c1, c2⟩ h; dsimp only at h ⊢
   refine sd mo fun K k => ?_
   iterate 4 refine dd ?_
   refine DOps.nil (by kernel_rfl) (k _ ?_)
   refine AWp.ret ?_
   cases h; exact rt
end Go.Pv.Tryd

namespace Go.Pv.Tryd
open Go.Proofs Go.Pv
theorem m_rate_Prices_ok (n1 : Int) (offers1 : (List Offer)) (r : ((List Ratio) × Int)) (h : m_rate_Prices n1 offers1 = some r) : PureFn Tryd.prog G 23 [.d (.int .i64 n1), .d (.imm 4 (lenc Offer.pd offers1))] (.tuple [.d (.imm 2 (lenc Ratio.pd r.1)), .d (.int .i64 r.2)]) := by
 unfold m_rate_Prices at h
 refine pf Tryd.func23 Tryd.ntmps23 ?_
 refine sg fun K k => ?_
 iterate 2 refine oo ?_
 refine AOps.nil (k _ ?_)
 refine sg fun K k => ?_
 iterate 2 refine oo ?_
 obtain ⟨r1, hx_1, h⟩ := bind_some h
 refine cl (m_rate_of_ok n1 offers1 _ hx_1) ?_
 iterate 6 refine oo ?_
 refine AOps.nil (k _ ?_)
 refine AWp.seq fun _ K_2 => ?_
 refine sg fun K k => ?_
 iterate 2 refine oo ?_
 refine AOps.nil (k _ ?_)
 refine cd h (fun h => ?_) (fun h => ?_)
 ·refine sg fun K k => ?_
  iterate 3 refine oo ?_
  refine AOps.nil (k _ ?_)
  refine AWp.ret ?_
  cases h; exact rt
 ·refine AWp.skip ?_
  refine K_2 _ ?_
  refine AWp.seq fun _ K_4 => ?_
  refine sg fun K k => ?_
  refine oo ?_
  obtain ⟨r2, hx_5, h⟩ := bind_some h
  refine cl (m_rate_market_round_ok r1.1 _ hx_5) ?_
  refine oo ?_
  refine AOps.nil (k _ ?_)
  refine cd h (fun h => ?_) (fun h => ?_)
  ·refine sg fun K k => ?_
   iterate 2 refine oo ?_
   refine AOps.nil (k _ ?_)
   refine AWp.ret ?_
   cases h; exact rt
  ·refine AWp.skip ?_
   refine K_4 _ ?_
   refine sg fun K k => ?_
   refine oo ?_
   refine AOps.nil (k _ ?_)
   refine AWp.sub (Sub.void 8 26 2 1001 (by rfl) (by rfl) (by decide) (by decide)) ?_
   simp only [eput, hput, reduceCtorEq, ↓reduceIte, Nat.reduceAdd, Nat.reduceMul, Nat.reduceLT, Nat.reduceLeDiff, Nat.reduceEqDiff, Nat.reduceBEq, Int.reduceToNat]
   refine jn (α := (List Ratio)) [] [] (fun i t => (8, .slc 1001 0 i.length) :: t) (fun i t => (1001, ⟨26, 2, dl (lenc Ratio.pd i)⟩) :: t) h ?_ ?_
   ·intro _ hj_8
    refine sg fun K k => ?_
    iterate 2 refine oo ?_
    refine AOps.nil (k _ ?_)
    refine AWp.block ?_
    obtain ⟨x_13, hl_10, h2_11⟩ := bind_some hj_8
    refine lp (S := (Int × (List Ratio))) [0, 6, 26] [1000] (fun i t => (8, .slc 1001 0 i.2.length) :: (27, .d (.int .i64 i.1)) :: t) (fun i t => (1001, ⟨26, 2, dl (lenc Ratio.pd i.2)⟩) :: t) hl_10 ?_ ?_; exact sb; clear hl_10
    rintro ⟨v1, L2⟩ _ hb_12; unfold m_rate_Prices_l1 at hb_12; try dsimp only at hb_12
    try dsimp only
    refine sg fun K k => ?_
    refine oo ?_
    refine AOps.nil (k _ ?_)
    refine AWp.seq fun _ K_15 => ?_
    refine cd hb_12 (fun hb_12 => ?_) (fun hb_12 => ?_)
    ·refine AWp.skip ?_
     refine K_15 _ ?_
     refine jn (α := (List Ratio)) [0, 6, 26, 27] [1000] (fun i t => (8, .slc 1001 0 i.length) :: t) (fun i t => (1001, ⟨26, 2, dl (lenc Ratio.pd i)⟩) :: t) hb_12 ?_ ?_
     ·intro _ hj_18
      refine AWp.block ?_
      refine sg fun K k => ?_
      iterate 2 refine oo ?_
      refine AOps.nil (k _ ?_)
      refine sg fun K k => ?_
      iterate 3 refine oo ?_
      refine AOps.nil (k _ ?_)
      refine jn (α := Ratio) [0, 6, 8, 26, 27] [1000, 1001] (fun i t => (10, .ptr 1002 0 0) :: t) (fun i t => (1002, ⟨26, 2, [.d (.agg [(.int .i64 i.Num), (.int .i64 i.Den)])]⟩) :: t) hj_18 ?_ ?_
      ·intro _ hj_20
       refine sg fun K k => ?_
       iterate 2 refine oo ?_
       refine AOps.nil (k _ ?_)
       refine AWp.block ?_
       obtain ⟨x_25, hl_22, h2_23⟩ := bind_some hj_20
       refine lp (S := (Int × Ratio)) [0, 6, 8, 9, 26, 27, 31] [1000, 1001] (fun i t => (10, .ptr 1002 0 0) :: (32, .d (.int .i64 i.1)) :: t) (fun i t => (1002, ⟨26, 2, [.d (.agg [(.int .i64 i.2.Num), (.int .i64 i.2.Den)])]⟩) :: t) hl_22 ?_ ?_; exact sb; clear hl_22
       rintro ⟨v2, c2⟩ _ hb_24; unfold m_rate_Prices_l2 at hb_24; try dsimp only at hb_24
       try dsimp only
       refine sg fun K k => ?_
       refine oo ?_
       refine AOps.nil (k _ ?_)
       refine AWp.seq fun _ K_27 => ?_
       refine cd hb_24 (fun hb_24 => ?_) (fun hb_24 => ?_)
       ·refine AWp.skip ?_
        refine K_27 _ ?_
        refine jn (α := Ratio) [0, 6, 8, 9, 26, 27, 31, 32] [1000, 1001] (fun i t => (10, .ptr 1002 0 0) :: t) (fun i t => (1002, ⟨26, 2, [.d (.agg [(.int .i64 i.Num), (.int .i64 i.Den)])]⟩) :: t) hb_24 ?_ ?_
        ·intro _ hj_30
         refine AWp.block ?_
         refine sg fun K k => ?_
         iterate 2 refine oo ?_
         refine AOps.nil (k _ ?_)
         refine sg fun K k => ?_
         iterate 3 refine oo ?_
         obtain ⟨r3, hx_31, hj_30⟩ := bind_some hj_30
         refine cl (m_rate_market_best_ok r1.1 v1 v2 _ hx_31) ?_
         iterate 6 refine oo ?_
         refine AOps.nil (k _ ?_)
         refine sg fun K k => ?_
         iterate 2 refine oo ?_
         obtain ⟨b1, hc_32, hj_30⟩ := bind_some hj_30
         refine ct 5 [0, 6, 8, 9, 10, 12, 26, 27, 31, 32] [1000, 1001, 1002, 1003] (fun  t => (48, .d (.bool b1)) :: t) ?_ ?_
         ·rcases bt r3.2 with hg_34 | hg_34
          ·rw [hg_34]
           rw [hg_34, cond_true] at hc_32
           iterate 3 refine oo ?_
           obtain ⟨r4, hx_33, hc_32⟩ := bind_some hc_32
           refine cl (m_rate_above_ok r3.1.rate c2 _ hx_33) ?_
           refine oo ?_
           refine AOps.nil ?_
           cases hc_32
           exact sb
          ·rw [hg_34]
           rw [hg_34, cond_false] at hc_32
           iterate 5 refine oo ?_
           refine AOps.nil ?_
           cases hc_32
           exact sb
         refine AOps.nil (k _ ?_)
         refine cd hj_30 (fun hj_30 => ?_) (fun hj_30 => ?_)
         ·refine AWp.reg ?_
          iterate 3 refine oo ?_
          refine AOps.nil ?_
          cases hj_30; exact sb
         ·refine AWp.skip ?_
          cases hj_30; exact sb
        ·rintro c3 hb_24; dsimp only at hb_24 ⊢
         refine AWp.reg ?_
         iterate 2 refine oo ?_
         refine AOps.nil ?_
         exact ln hb_24 sb
       ·refine AWp.exit ?_
        refine lx hb_24 fun hx => ?_; cases hx; try dsimp only at h2_23
        cases h2_23; exact sb
      ·rintro c1 hj_18; dsimp only at hj_18 ⊢
       refine AWp.reg ?_
       iterate 2 refine oo ?_
       refine ol ?_
       obtain ⟨hg_36, hj_18⟩ := guardO_some hj_18
       iterate 2 refine oo ?_
       refine AOps.nil ?_
       cases hj_18; exact sb
     ·rintro L3 hb_12; dsimp only at hb_12 ⊢
      refine AWp.reg ?_
      iterate 2 refine oo ?_
      refine AOps.nil ?_
      exact ln hb_12 sb
    ·refine AWp.exit ?_
     refine lx hb_12 fun hx => ?_; cases hx; try dsimp only at h2_11
     cases h2_11; exact sb
   ·rintro L1 h; dsimp only at h ⊢
    refine sg fun K k => ?_
    iterate 3 refine oo ?_
    refine AOps.nil (k _ ?_)
    refine AWp.ret ?_
    cases h; exact rt
end Go.Pv.Tryd

namespace Go.Pv.Tryd
open Go.Proofs Go.Pv
theorem m_rate_Best_ok (n1 : Int) (offers1 : (List Offer)) (from1 : Int) (to1 : Int) (r : (Ratio × (List Int) × Int)) (h : m_rate_Best n1 offers1 from1 to1 = some r) : PureFn Tryd.prog G 20 [.d (.int .i64 n1), .d (.imm 4 (lenc Offer.pd offers1)), .d (.int .i64 from1), .d (.int .i64 to1)] (.tuple [.d (.agg [(.int .i64 r.1.Num), (.int .i64 r.1.Den)]), .d (.imm 1 (lenc (PD.int .i64) r.2.1)), .d (.int .i64 r.2.2)]) := by
 unfold m_rate_Best at h
 refine pf Tryd.func20 Tryd.ntmps20 ?_
 refine sg fun K k => ?_
 iterate 3 refine oo ?_
 refine AOps.nil (k _ ?_)
 refine sg fun K k => ?_
 iterate 2 refine oo ?_
 obtain ⟨r1, hx_1, h⟩ := bind_some h
 refine cl (m_rate_of_ok n1 offers1 _ hx_1) ?_
 iterate 6 refine oo ?_
 refine AOps.nil (k _ ?_)
 refine AWp.seq fun _ K_2 => ?_
 refine AWp.block ?_
 refine sg fun K k => ?_
 iterate 3 refine oo ?_
 refine AOps.nil (k _ ?_)
 refine cd h (fun h => ?_) (fun h => ?_)
 ·refine sg fun K k => ?_
  iterate 5 refine oo ?_
  refine AOps.nil (k _ ?_)
  refine AWp.ret ?_
  cases h; exact rt
 ·refine sg fun K k => ?_
  iterate 2 refine oo ?_
  obtain ⟨r2, hx_4, h⟩ := bind_some h
  refine cl (m_rate_market_has_ok r1.1 from1 _ hx_4) ?_
  iterate 2 refine oo ?_
  obtain ⟨b1, hc_5, h⟩ := bind_some h
  refine ct 5 [2, 3, 8, 11] [1000, 1001] (fun  t => (36, .d (.bool b1)) :: t) ?_ ?_
  ·rcases bt (!r2) with hg_7 | hg_7
   ·rw [hg_7]
    rw [hg_7, cond_true] at hc_5
    iterate 5 refine oo ?_
    refine AOps.nil ?_
    cases hc_5
    exact sb
   ·rw [hg_7]
    rw [hg_7, cond_false] at hc_5
    iterate 2 refine oo ?_
    obtain ⟨r3, hx_6, hc_5⟩ := bind_some hc_5
    refine cl (m_rate_market_has_ok r1.1 to1 _ hx_6) ?_
    iterate 2 refine oo ?_
    refine AOps.nil ?_
    cases hc_5
    exact sb
  refine oo ?_
  refine AOps.nil (k _ ?_)
  refine cd h (fun h => ?_) (fun h => ?_)
  ·refine sg fun K k => ?_
   iterate 4 refine oo ?_
   refine AOps.nil (k _ ?_)
   refine AWp.ret ?_
   cases h; exact rt
  ·refine sg fun K k => ?_
   refine oo ?_
   obtain ⟨r4, hx_9, h⟩ := bind_some h
   refine cl (m_rate_market_round_ok r1.1 _ hx_9) ?_
   iterate 2 refine oo ?_
   refine AOps.nil (k _ ?_)
   refine cd h (fun h => ?_) (fun h => ?_)
   ·refine sg fun K k => ?_
    iterate 4 refine oo ?_
    refine AOps.nil (k _ ?_)
    refine AWp.ret ?_
    cases h; exact rt
   ·refine AWp.skip ?_
    refine K_2 _ ?_
    refine sg fun K k => ?_
    iterate 3 refine oo ?_
    obtain ⟨r5, hx_11, h⟩ := bind_some h
    refine cl (m_rate_market_best_ok r1.1 from1 to1 _ hx_11) ?_
    iterate 6 refine oo ?_
    refine AOps.nil (k _ ?_)
    refine AWp.seq fun _ K_12 => ?_
    refine sg fun K k => ?_
    iterate 2 refine oo ?_
    refine AOps.nil (k _ ?_)
    refine cd h (fun h => ?_) (fun h => ?_)
    ·refine sg fun K k => ?_
     iterate 4 refine oo ?_
     refine AOps.nil (k _ ?_)
     refine AWp.ret ?_
     cases h; exact rt
    ·refine AWp.skip ?_
     refine K_12 _ ?_
     refine sd mo fun K k => ?_
     iterate 7 refine dd ?_
     refine DOps.nil (by kernel_rfl) (k _ ?_)
     refine AWp.ret ?_
     cases h; exact rt
end Go.Pv.Tryd

namespace Go.Pv.Tryd
open Go.Proofs Go.Pv
theorem m_rate_Round_ok (n1 : Int) (offers1 : (List Offer)) (r : ((List Int) × Int)) (h : m_rate_Round n1 offers1 = some r) : PureFn Tryd.prog G 26 [.d (.int .i64 n1), .d (.imm 4 (lenc Offer.pd offers1))] (.tuple [.d (.imm 1 (lenc (PD.int .i64) r.1)), .d (.int .i64 r.2)]) := by
 unfold m_rate_Round at h
 refine pf Tryd.func26 Tryd.ntmps26 ?_
 refine sg fun K k => ?_
 iterate 2 refine oo ?_
 refine AOps.nil (k _ ?_)
 refine sg fun K k => ?_
 iterate 2 refine oo ?_
 obtain ⟨r1, hx_1, h⟩ := bind_some h
 refine cl (m_rate_of_ok n1 offers1 _ hx_1) ?_
 iterate 6 refine oo ?_
 refine AOps.nil (k _ ?_)
 refine AWp.seq fun _ K_2 => ?_
 refine sg fun K k => ?_
 iterate 2 refine oo ?_
 refine AOps.nil (k _ ?_)
 refine cd h (fun h => ?_) (fun h => ?_)
 ·refine sg fun K k => ?_
  iterate 3 refine oo ?_
  refine AOps.nil (k _ ?_)
  refine AWp.ret ?_
  cases h; exact rt
 ·refine AWp.skip ?_
  refine K_2 _ ?_
  refine sg fun K k => ?_
  refine oo ?_
  obtain ⟨r2, hx_4, h⟩ := bind_some h
  refine cl (m_rate_market_round_ok r1.1 _ hx_4) ?_
  refine oo ?_
  refine AOps.nil (k _ ?_)
  refine AWp.seq fun _ K_5 => ?_
  refine sg fun K k => ?_
  iterate 2 refine oo ?_
  refine AOps.nil (k _ ?_)
  refine cd h (fun h => ?_) (fun h => ?_)
  ·refine sg fun K k => ?_
   iterate 2 refine oo ?_
   refine AOps.nil (k _ ?_)
   refine AWp.ret ?_
   cases h; exact rt
  ·refine AWp.skip ?_
   refine K_5 _ ?_
   refine sg fun K k => ?_
   iterate 3 refine oo ?_
   refine AOps.nil (k _ ?_)
   refine AWp.ret ?_
   cases h; exact rt
end Go.Pv.Tryd

namespace Go.Pv.Tryd
open Go.Proofs Go.Pv
theorem m_cocketlaw01_same_ok (a1 : (List Int)) (b1 : (List Int)) (r : Bool) (h : m_cocketlaw01_same a1 b1 = some r) : PureFn Tryd.prog G 21 [.d (.imm 1 (lenc (PD.int .i64) a1)), .d (.imm 1 (lenc (PD.int .i64) b1))] (.d (.bool r)) := by
 unfold m_cocketlaw01_same at h
 refine pf Tryd.func21 Tryd.ntmps21 ?_
 refine sg fun K k => ?_
 refine oo ?_
 refine AOps.nil (k _ ?_)
 refine AWp.seq fun _ K_1 => ?_
 refine sg fun K k => ?_
 iterate 5 refine oo ?_
 refine AOps.nil (k _ ?_)
 refine cd h (fun h => ?_) (fun h => ?_)
 ·refine sg fun K k => ?_
  refine oo ?_
  refine AOps.nil (k _ ?_)
  refine AWp.ret ?_
  cases h; exact rt
 ·refine AWp.skip ?_
  refine K_1 _ ?_
  refine jm (ι := Unit) [] [] (fun i t => t) (fun i t => t) .inl h ?_ ?_
  ·intro _ hj_4 h
   refine sg fun K k => ?_
   refine oo ?_
   refine AOps.nil (k _ ?_)
   refine AWp.block ?_
   obtain ⟨x_9, hl_6, h2_7⟩ := bind_some hj_4
   refine lp (S := Int) [0, 1] [] (fun i t => (5, .d (.int .i64 i)) :: t) (fun i t => t) hl_6 ?_ ?_; exact sb; clear hl_6
   rintro i1 _ hb_8; unfold m_cocketlaw01_same_l1 at hb_8; try dsimp only at hb_8
   try dsimp only
   refine AWp.seq fun _ K_11 => ?_
   refine sg fun K k => ?_
   iterate 4 refine oo ?_
   refine AOps.nil (k _ ?_)
   refine cd hb_8 (fun hb_8 => ?_) (fun hb_8 => ?_)
   ·refine AWp.skip ?_
    refine K_11 _ ?_
    refine AWp.seq fun _ K_13 => ?_
    refine AWp.block ?_
    refine sd mo fun K k => ?_
    obtain ⟨e1, ⟨f_14, f_15, f_16, f_17⟩, hb_8⟩ := idx_bind hb_8
    iterate 3 refine dd ?_
    refine dd ?_ (by intro K k; simp (disch := omega) only [go_sem, f_16, ↓reduceIte]; exact k)
    obtain ⟨e2, ⟨f_18, f_19, f_20, f_21⟩, hb_8⟩ := idx_bind hb_8
    iterate 3 refine dd ?_
    refine dd ?_ (by intro K k; simp (disch := omega) only [go_sem, f_20, ↓reduceIte]; exact k)
    refine dd ?_
    refine DOps.nil (by kernel_rfl) (k _ ?_)
    refine cd hb_8 (fun hb_8 => ?_) (fun hb_8 => ?_)
    ·refine sg fun K k => ?_
     refine oo ?_
     refine AOps.nil (k _ ?_)
     refine AWp.ret ?_
     refine lx hb_8 fun hx => ?_; cases hx; try dsimp only at h2_7
     cases h2_7; try dsimp only at h
     cases h; exact rt
    ·refine AWp.skip ?_
     refine K_13 _ ?_
     refine AWp.reg ?_
     iterate 3 refine oo ?_
     refine AOps.nil ?_
     exact ln hb_8 sb
   ·refine AWp.exit ?_
    refine lx hb_8 fun hx => ?_; cases hx; try dsimp only at h2_7
    exact ln h2_7 sb
  ·rintro _ h; dsimp only at h ⊢
   refine sg fun K k => ?_
   refine oo ?_
   refine AOps.nil (k _ ?_)
   refine AWp.ret ?_
   cases h; exact rt
end Go.Pv.Tryd

namespace Go.Pv.Tryd
open Go.Proofs Go.Pv
theorem m_cocketlaw01_alive_ok (r : Bool) (h : m_cocketlaw01_alive = some r) : PureFn Tryd.prog G 18 [] (.d (.bool r)) := by
 unfold m_cocketlaw01_alive at h
 refine pf Tryd.func18 Tryd.ntmps18 ?_
 refine sg fun K k => ?_
 refine oo ?_
 refine AOps.nil (k _ ?_)
 refine sg fun K k => ?_
 obtain ⟨r1, hx_1, h⟩ := bind_some h
 refine clRow 1000 (m_cocketlaw01_ring_ok _ hx_1) ?_
 refine AOps.sub (τ := ⟨[(10, .d (.imm 4 (lenc Offer.pd r1)))], [], [], none⟩) sc ?_
 obtain ⟨r2, hx_2, h⟩ := bind_some h
 refine cl (m_rate_Prices_ok 3 r1 _ hx_2) ?_
 iterate 5 refine oo ?_
 refine AOps.nil (k _ ?_)
 refine sg fun K k => ?_
 obtain ⟨r3, hx_3, h⟩ := bind_some h
 refine clRow 1000 (m_cocketlaw01_ring_ok _ hx_3) ?_
 refine AOps.sub (τ := ⟨[(1, .d (.imm 2 (lenc Ratio.pd r2.1))), (2, .d (.int .i64 r2.2)), (15, .d (.imm 4 (lenc Offer.pd r3)))], [], [], none⟩) sc ?_
 obtain ⟨r4, hx_4, h⟩ := bind_some h
 refine cl (m_rate_Best_ok 3 r3 0 2 _ hx_4) ?_
 iterate 8 refine oo ?_
 refine AOps.nil (k _ ?_)
 refine sg fun K k => ?_
 obtain ⟨r5, hx_5, h⟩ := bind_some h
 refine clRow 1001 (m_cocketlaw01_ring_ok _ hx_5) ?_
 refine oo ?_
 refine AOps.nil (k _ ?_)
 refine sg fun K k => ?_
 obtain ⟨e1, ⟨f_6, f_7, f_8, f_9⟩, h⟩ := idx_bind h
 try simp only [Int.reduceToNat] at f_8 f_9
 iterate 3 refine oo ?_
 refine oo ?_ (by intro K k; simp (disch := omega) only [go_sem, f_8, ↓reduceIte]; exact k)
 refine AOps.nil (k _ ?_)
 refine sg fun K k => ?_
 refine oo ?_
 refine AOps.sub (τ := ⟨[(1, .d (.imm 2 (lenc Ratio.pd r2.1))), (2, .d (.int .i64 r2.2)), (3, .ptr 1000 0 0), (4, .d (.imm 1 (lenc (PD.int .i64) r4.2.1))), (5, .d (.int .i64 r4.2.2)), (25, .d (.imm 4 (lenc Offer.pd (r5.set 2 (⟨e1.From, e1.To, e1.Num, 2⟩ : Offer)))))], [(1000, ⟨26, 2, [.d (.agg [(.int .i64 r4.1.Num), (.int .i64 r4.1.Den)])]⟩)], [], none⟩) sc ?_
 obtain ⟨r6, hx_10, h⟩ := bind_some h
 refine cl (m_rate_Round_ok 3 (r5.set 2 (⟨e1.From, e1.To, e1.Num, 2⟩ : Offer)) _ hx_10) ?_
 iterate 5 refine oo ?_
 refine AOps.nil (k _ ?_)
 refine sg fun K k => ?_
 iterate 3 refine oo ?_
 refine ct 4 [1, 3, 4, 5, 7, 8] [1000] (fun  t => (35, .d (.bool ((decide (r2.2 = 0)) && (decide ((r2.1.length : Int) = 3))))) :: t) ?_ ?_
 ·rcases bt (decide (r2.2 = 0)) with hg_12 | hg_12
  ·rw [hg_12]
   iterate 4 refine oo ?_
   refine AOps.nil ?_
   exact sb
  ·rw [hg_12]
   iterate 4 refine oo ?_
   refine AOps.nil ?_
   exact sb
 refine oo ?_
 obtain ⟨b1, hc_13, h⟩ := bind_some h
 refine ct 6 [3, 4, 5, 7, 8] [1000] (fun  t => (42, .d (.bool b1)) :: t) ?_ ?_
 ·rcases bt ((decide (r2.2 = 0)) && (decide ((r2.1.length : Int) = 3))) with hg_18 | hg_18
  ·rw [hg_18]
   rw [hg_18, cond_true] at hc_13
   obtain ⟨e2, ⟨f_14, f_15, f_16, f_17⟩, hc_13⟩ := idx_bind hc_13
   try simp only [Int.reduceToNat] at f_16 f_17
   iterate 2 refine oo ?_
   refine oo ?_ (by intro K k; simp (disch := omega) only [go_sem, f_16, ↓reduceIte]; exact k)
   refine oo ?_
   refine ox ?_ (by intro K k; simp (disch := omega) only [go_sem, fsl26, ↓reduceIte]; exact k)
   refine oo ?_
   refine AOps.nil ?_
   cases hc_13
   exact sb
  ·rw [hg_18]
   rw [hg_18, cond_false] at hc_13
   iterate 6 refine oo ?_
   refine AOps.nil ?_
   cases hc_13
   exact sb
 refine oo ?_
 refine ct 3 [3, 4, 7, 8] [1000] (fun  t => (46, .d (.bool (b1 && (decide (r4.2.2 = 0))))) :: t) ?_ ?_
 ·rcases bt b1 with hg_20 | hg_20
  ·rw [hg_20]
   iterate 3 refine oo ?_
   refine AOps.nil ?_
   exact sb
  ·rw [hg_20]
   iterate 3 refine oo ?_
   refine AOps.nil ?_
   exact sb
 refine oo ?_
 refine ct 4 [4, 7, 8] [] (fun  t => (51, .d (.bool ((b1 && (decide (r4.2.2 = 0))) && ((r4.1.Num == 3) && (r4.1.Den == 1))))) :: t) ?_ ?_
 ·rcases bt (b1 && (decide (r4.2.2 = 0))) with hg_22 | hg_22
  ·rw [hg_22]
   iterate 2 refine oo ?_
   refine ox ?_ (by intro K k; simp (disch := omega) only [go_sem, fsl26, ↓reduceIte]; exact k)
   refine oo ?_
   refine AOps.nil ?_
   exact sb
  ·rw [hg_22]
   iterate 4 refine oo ?_
   refine AOps.nil ?_
   exact sb
 refine oo ?_
 refine ct 4 [7, 8] [] (fun  t => (56, .d (.bool (((b1 && (decide (r4.2.2 = 0))) && ((r4.1.Num == 3) && (r4.1.Den == 1))) && (decide ((r4.2.1.length : Int) = 2))))) :: t) ?_ ?_
 ·rcases bt ((b1 && (decide (r4.2.2 = 0))) && ((r4.1.Num == 3) && (r4.1.Den == 1))) with hg_24 | hg_24
  ·rw [hg_24]
   iterate 4 refine oo ?_
   refine AOps.nil ?_
   exact sb
  ·rw [hg_24]
   iterate 4 refine oo ?_
   refine AOps.nil ?_
   exact sb
 refine oo ?_
 refine ct 3 [7] [] (fun  t => (60, .d (.bool ((((b1 && (decide (r4.2.2 = 0))) && ((r4.1.Num == 3) && (r4.1.Den == 1))) && (decide ((r4.2.1.length : Int) = 2))) && (decide (r6.2 = 0))))) :: t) ?_ ?_
 ·rcases bt (((b1 && (decide (r4.2.2 = 0))) && ((r4.1.Num == 3) && (r4.1.Den == 1))) && (decide ((r4.2.1.length : Int) = 2))) with hg_26 | hg_26
  ·rw [hg_26]
   iterate 3 refine oo ?_
   refine AOps.nil ?_
   exact sb
  ·rw [hg_26]
   iterate 3 refine oo ?_
   refine AOps.nil ?_
   exact sb
 refine oo ?_
 obtain ⟨b2, hc_27, h⟩ := bind_some h
 refine ct 4 [] [] (fun  t => (65, .d (.bool b2)) :: t) ?_ ?_
 ·rcases bt ((((b1 && (decide (r4.2.2 = 0))) && ((r4.1.Num == 3) && (r4.1.Den == 1))) && (decide ((r4.2.1.length : Int) = 2))) && (decide (r6.2 = 0))) with hg_29 | hg_29
  ·rw [hg_29]
   rw [hg_29, cond_true] at hc_27
   refine oo ?_
   refine ol ?_
   obtain ⟨r7, hx_28, hc_27⟩ := bind_some hc_27
   refine cl (m_cocketlaw01_same_ok r6.1 [0, 1, 2] _ hx_28) ?_
   refine oo ?_
   refine AOps.nil ?_
   cases hc_27
   exact sb
  ·rw [hg_29]
   rw [hg_29, cond_false] at hc_27
   iterate 4 refine oo ?_
   refine AOps.nil ?_
   cases hc_27
   exact sb
 refine oo ?_
 refine AOps.nil (k _ ?_)
 refine AWp.ret ?_
 cases h; exact rt
end Go.Pv.Tryd

