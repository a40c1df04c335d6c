/- RateNeedless answers true for every input, as its tied card says: under the conditions of the card (Rows, Cards, Tie), no more. Part 4 of 5: by one AI agent and its programs; no person has read it. -/
import Derived.Test.YtmnemlihimnofaaDoorRateNeedlessA
import Derived.Test.YtmnemlihimnofaaDoorRateNeedlessB
import Derived.Test.YtmnemlihimnofaaDoorRateNeedlessC
set_option linter.unusedSimpArgs false
set_option linter.unusedVariables false
set_option linter.all false

set_option linter.unusedSimpArgs false
set_option linter.unusedVariables false
namespace Go.Pv
def foldUp {S : Type} (h : Int → S → S) : Nat → Int → S → S
  | 0, _, s => s
  | k + 1, i, s => foldUp h k (i + 1) (h i s)
theorem forUp_some {S : Type} {g : Int → S → Option S} {h : Int → S → S} {P : Int → S → Prop} : ∀ {k : Nat} {i : Int} {s : S}, (∀ j s, i ≤ j → j < i + k → P j s → g j s = some (h j s) ∧ P (j + 1) (h j s)) → P i s →
    forUp g k i s = some (foldUp h k i s) ∧ P (i + k) (foldUp h k i s)
  | 0, i, s, _, hp => ⟨rfl, by rw [show i + ((0 : Nat) : Int) = i by omega]; exact hp⟩
  | k + 1, i, s, hg, hp => by
    obtain ⟨h1, h2⟩ := hg i s (by omega) (by omega) hp
    have := forUp_some (k := k) (i := i + 1) (s := h i s) (fun j s h3 h4 h5 => hg j s (by omega) (by omega) h5) h2
    simp only [forUp, foldUp, h1, Option.bind_some]
    rw [show i + ((k + 1 : Nat) : Int) = i + 1 + (k : Int) by omega]
    exact this
theorem iter_fold {S X : Type} {f : Int × S → Option ((Int × S) ⊕ X)} {n : Int} {g : Int → S → Option S} {e : S → X} {h : Int → S → S} (P : Int → S → Prop) (hn : n ≤ 9223372036854775807)
    (hf : ∀ i s, f (i, s) = cond (decide (i < n)) ((g i s).bind fun s' => some (.inl (IntKind.i64.wrap (i + 1), s'))) (some (.inr (e s)))) {i : Int} {s : S} (h0 : 0 ≤ i)
    (hg : ∀ j s, i ≤ j → j < n → P j s → g j s = some (h j s) ∧ P (j + 1) (h j s)) (hp : P i s) : iter f (i, s) = some (e (foldUp h (n - i).toNat i s)) ∧ P (i + (n - i).toNat) (foldUp h (n - i).toNat i s) := by
  obtain ⟨h1, h2⟩ := forUp_some (k := (n - i).toNat) (i := i) (s := s) (g := g) (h := h) (P := P) (fun j s h3 h4 h5 => hg j s h3 (by omega) h5) hp
  rw [iter_for hn hf _ i s rfl h0, h1]
  exact ⟨rfl, h2⟩
def cmpL : List Int → List Int → Int
  | [], [] => 0
  | [], _ :: _ => -1
  | _ :: _, [] => 1
  | x :: xs, y :: ys => if x < y then -1 else if y < x then 1 else cmpL xs ys
theorem cmp_Compare (x y : Int) : m_cmp_Compare x y = some (if x < y then -1 else if y < x then 1 else 0) := by
  have h : ∀ x, m_cmp_isNaN x = some false := fun x => by simp [m_cmp_isNaN]
  rw [m_cmp_Compare, h, h]
  simp only [Option.bind_some, cond_false]
  by_cases h1 : x < y
  · simp [h1]
  by_cases h2 : y < x
  · simp [h1, h2]
  · simp [h1, h2]
theorem Compare_l1 (s t : List Int) (hs : s.length ≤ 1000000) (ht : t.length ≤ 1000000) : ∀ (k : Nat) (i : Int), k = (s.length - i).toNat → 0 ≤ i → i ≤ t.length →
    iter (m_slices_Compare_l1 s t) i = some (if s.length ≤ t.length ∧ s.drop i.toNat <+: t.drop i.toNat then .inl () else .inr (cmpL (s.drop i.toNat) (t.drop i.toNat)))
  | 0, i, hk, hi, ht => by
    have h : decide (i < (s.length : Int)) = false := by simp; omega
    have hd : s.drop i.toNat = [] := List.drop_of_length_le (by omega)
    rw [iter_eq, m_slices_Compare_l1, h, if_pos ⟨by omega, by rw [hd]; exact List.nil_prefix⟩]
    rfl
  | k + 1, i, hk, hi, hit => by
    have hlt : i < (s.length : Int) := by omega
    have h : decide (i < (s.length : Int)) = true := by simp; omega
    obtain ⟨x, h1, h2, h3, _⟩ := idx_lt hi hlt
    rw [iter_eq, m_slices_Compare_l1, h]
    simp only [cond_true, h1, Option.bind_some]
    by_cases hti : (t.length : Int) ≤ i
    · have d : decide ((t.length : Int) ≤ i) = true := by simpa using hti
      have hd : t.drop i.toNat = [] := List.drop_of_length_le (by omega)
      rw [d, hd, h3, if_neg (by omega)]
      rfl
    have d : decide ((t.length : Int) ≤ i) = false := by simpa using hti
    obtain ⟨y, g1, g2, g3, _⟩ := idx_lt (l := t) hi (by omega)
    simp only [d, cond_false, g1, Option.bind_some, cmp_Compare]
    rw [h3, g3]
    have ih := Compare_l1 s t hs ht k (i + 1) (by omega) (by omega) (by omega)
    have e1 : (i + 1).toNat = i.toNat + 1 := by omega
    rw [e1] at ih
    by_cases c1 : x < y
    · have e : decide (¬(if x < y then (-1 : Int) else if y < x then 1 else 0) = 0) = true := by simp [c1]
      have hng : ¬ (s.length ≤ t.length ∧ x :: s.drop (i.toNat + 1) <+: y :: t.drop (i.toNat + 1)) := fun h => by
        have := (List.cons_prefix_cons.1 h.2).1
        omega
      rw [if_neg hng]
      simp [e, c1, cmpL]
    by_cases c2 : y < x
    · have e : decide (¬(if x < y then (-1 : Int) else if y < x then 1 else 0) = 0) = true := by simp [c1, c2]
      have hng : ¬ (s.length ≤ t.length ∧ x :: s.drop (i.toNat + 1) <+: y :: t.drop (i.toNat + 1)) := fun h => by
        have := (List.cons_prefix_cons.1 h.2).1
        omega
      rw [if_neg hng]
      simp [e, c1, c2, cmpL]
    · have e : decide (¬(if x < y then (-1 : Int) else if y < x then 1 else 0) = 0) = false := by simp [c1, c2]
      have exy : x = y := by omega
      subst exy
      rw [e, wrap_i64_eq (by omega)]
      simp only [cond_false, Option.bind_some, ih, cmpL, c1, if_false, List.cons_prefix_cons, true_and]
theorem cmpL_prefix : ∀ {s t : List Int}, s <+: t → cmpL s t = if s.length < t.length then -1 else 0
  | [], [], _ => rfl
  | [], _ :: _, _ => rfl
  | x :: s, [], h => by simp at h
  | x :: s, y :: t, h => by
    rw [List.cons_prefix_cons] at h
    obtain ⟨rfl, h⟩ := h
    simp only [cmpL, Int.lt_irrefl, if_false, cmpL_prefix h, List.length_cons, Nat.add_lt_add_iff_right]
theorem Compare_eq (s t : List Int) (hs : s.length ≤ 1000000) (ht : t.length ≤ 1000000) : m_slices_Compare s t = some (cmpL s t) := by
  rw [m_slices_Compare, Compare_l1 s t hs ht _ 0 rfl (by omega) (by omega)]
  simp only [Int.toNat_zero, List.drop_zero]
  by_cases h : s.length ≤ t.length ∧ s <+: t
  · rw [if_pos h, cmpL_prefix h.2]
    simp only [Option.bind_some]
    by_cases c : s.length < t.length
    · have d : decide ((s.length : Int) < (t.length : Int)) = true := by simp; omega
      simp [c]
    · have d : decide ((s.length : Int) < (t.length : Int)) = false := by simp; omega
      simp [c]
  · rw [if_neg h]; rfl
theorem same_l1 (a b : List Int) (ha : a.length ≤ 1000000) (hl : a.length = b.length) : ∀ (k : Nat) (i : Int), k = (a.length - i).toNat → 0 ≤ i →
    iter (m_cocketlaw01_same_l1 a b) i = some (if a.drop i.toNat = b.drop i.toNat then .inl () else .inr false)
  | 0, i, hk, hi => by
    have h : decide (i < (a.length : Int)) = false := by simp; omega
    rw [iter_eq, m_cocketlaw01_same_l1, h, List.drop_of_length_le (by omega), List.drop_of_length_le (by omega)]
    rfl
  | k + 1, i, hk, hi => by
    have hlt : i < (a.length : Int) := by omega
    have h : decide (i < (a.length : Int)) = true := by simp; omega
    obtain ⟨x, h1, h2, h3, _⟩ := idx_lt hi hlt
    obtain ⟨y, g1, g2, g3, _⟩ := idx_lt (l := b) hi (by omega)
    have ih := same_l1 a b ha hl k (i + 1) (by omega) (by omega)
    have e1 : (i + 1).toNat = i.toNat + 1 := by omega
    rw [e1] at ih
    rw [iter_eq, m_cocketlaw01_same_l1, h]
    simp only [cond_true, h1, g1, Option.bind_some, h3, g3]
    by_cases c : x = y
    · have d : decide (¬x = y) = false := by simp [c]
      rw [d, wrap_i64_eq (by omega)]
      simp only [cond_false, Option.bind_some, ih, List.cons.injEq, c, true_and]
    · have d : decide (¬x = y) = true := by simp [c]
      rw [d]
      simp [c]
theorem same_eq (a b : List Int) (ha : a.length ≤ 1000000) : m_cocketlaw01_same a b = some (decide (a = b)) := by
  rw [m_cocketlaw01_same]
  by_cases hl : a.length = b.length
  · have d : decide (¬(a.length : Int) = (b.length : Int)) = false := by simp [hl]
    rw [d, same_l1 a b ha hl _ 0 rfl (by omega)]
    simp only [Int.toNat_zero, List.drop_zero, cond_false]
    by_cases h : a = b
    · rw [if_pos h]; simp [h]
    · rw [if_neg h]; simp [h]
  · have d : decide (¬(a.length : Int) = (b.length : Int)) = true := by simp; omega
    have hne : a ≠ b := fun h => hl (by rw [h])
    rw [d]; simp [hne]
theorem walkOn_facts (n : Int) (offers : List Offer) (ho : ∀ o ∈ offers, goodOffer n o = true) (frm length : Int) (rounds : Bool) : ∀ (k : Nat) (w : Walk) (s : List Bool), (1 ≤ w.rate.Num ∧ w.rate.Num ≤ 50 ^ w.list.length) → (1 ≤ w.rate.Den ∧ w.rate.Den ≤ 50 ^ w.list.length) →
    ∀ x ∈ walkOn offers frm length rounds k w s, (x.list.length : Int) = length ∧ (1 ≤ x.rate.Num ∧ x.rate.Num ≤ 50 ^ x.list.length) ∧ (1 ≤ x.rate.Den ∧ x.rate.Den ≤ 50 ^ x.list.length)
  | 0, w, s, _, _, x, hx => by simp [walkOn] at hx
  | k + 1, w, s, h1, h2, x, hx => by
    rw [walkOn] at hx
    by_cases he : (w.list.length : Int) = length
    · rw [if_pos he] at hx
      split at hx
      · simp at hx
      · rw [List.mem_singleton] at hx; subst hx; exact ⟨he, h1, h2⟩
    · rw [if_neg he, List.mem_flatMap] at hx
      obtain ⟨⟨o, i⟩, hm, hx⟩ := hx
      split at hx
      · simp at hx
      have hmo : o ∈ offers := by
        rw [List.mem_zipIdx_iff_getElem?] at hm
        exact List.mem_of_getElem? hm
      have hg := ho o hmo
      simp only [goodOffer, decide_eq_true_eq] at hg
      have hr := ratioN_bounds (a := o.Num) (b := o.Den) (n := 50) ⟨by omega, by omega⟩ ⟨by omega, by omega⟩
      have ht := timesN_bounds (p := w.rate) (q := ratioN o.Num o.Den) (a := 50 ^ w.list.length) (b := 50) h1 h2 ⟨hr.1, hr.2.1⟩ ⟨hr.2.2.1, hr.2.2.2⟩
      refine walkOn_facts n offers ho frm length rounds k _ _ ?_ ?_ x hx
      · simp only [List.length_append, List.length_cons, List.length_nil, Int.pow_succ, Nat.zero_add]
        exact ⟨ht.1, ht.2.1⟩
      · simp only [List.length_append, List.length_cons, List.length_nil, Int.pow_succ, Nat.zero_add]
        exact ⟨ht.2.2.1, ht.2.2.2⟩
theorem walksL_facts (m : Market) (ho : ∀ o ∈ m.offers, goodOffer m.n o = true) (frm length : Int) (rounds : Bool) : ∀ x ∈ walksL m frm length rounds, (x.list.length : Int) = length ∧ (1 ≤ x.rate.Num ∧ x.rate.Num ≤ 50 ^ x.list.length) ∧ (1 ≤ x.rate.Den ∧ x.rate.Den ≤ 50 ^ x.list.length) :=
  walkOn_facts m.n m.offers ho frm length rounds _ _ _ (by simp) (by simp)
end Go.Pv

set_option linter.unusedSimpArgs false
set_option linter.unusedVariables false
namespace Go.Pv
def val : List Int → Int
  | [] => 0
  | d :: l => d + 10000 * val l
def Digs (l : List Int) : Prop := ∀ d ∈ l, 0 ≤ d ∧ d ≤ 9999
def Canon (l : List Int) : Prop := Digs l ∧ ∀ d, l.getLast? = some d → d ≠ 0
theorem Digs.nil : Digs [] := fun d h => by simp at h
theorem Canon.nil : Canon [] := ⟨Digs.nil, fun d h => by simp at h⟩
theorem Digs.cons {d : Int} {l : List Int} (h : 0 ≤ d ∧ d ≤ 9999) (hl : Digs l) : Digs (d :: l) := fun x hx => by
  rcases List.mem_cons.1 hx with rfl | hx
  · exact h
  · exact hl x hx
theorem Digs.head {d : Int} {l : List Int} (h : Digs (d :: l)) : 0 ≤ d ∧ d ≤ 9999 := h d (by simp)
theorem Digs.tail {d : Int} {l : List Int} (h : Digs (d :: l)) : Digs l := fun x hx => h x (List.mem_cons_of_mem _ hx)
theorem Digs.app {l m : List Int} (hl : Digs l) (hm : Digs m) : Digs (l ++ m) := fun x hx => by
  rcases List.mem_append.1 hx with h | h
  · exact hl x h
  · exact hm x h
theorem Digs.take {l : List Int} (h : Digs l) (n : Nat) : Digs (l.take n) := fun x hx => h x (List.mem_of_mem_take hx)
theorem Digs.drop {l : List Int} (h : Digs l) (n : Nat) : Digs (l.drop n) := fun x hx => h x (List.mem_of_mem_drop hx)
theorem Digs.set {l : List Int} (h : Digs l) (i : Nat) {d : Int} (hd : 0 ≤ d ∧ d ≤ 9999) : Digs (l.set i d) := fun x hx => by
  rcases List.mem_or_eq_of_mem_set hx with h' | rfl
  · exact h x h'
  · exact hd
theorem Digs.rep (n : Nat) : Digs (List.replicate n 0) := fun x hx => by
  have := List.eq_of_mem_replicate hx
  subst this; decide
theorem val_app (l m : List Int) : val (l ++ m) = val l + 10000 ^ l.length * val m := by
  induction l with
  | nil => simp [val]
  | cons d l ih => simp only [List.cons_append, val, ih, List.length_cons, Int.pow_succ]; rw [Int.mul_add, Int.mul_comm (10000 ^ l.length) 10000, Int.mul_assoc]; omega
theorem val_rep (n : Nat) : val (List.replicate n 0) = 0 := by
  induction n with
  | zero => rfl
  | succ n ih => simp [List.replicate_succ, val, ih]
theorem pow_pos' (n : Nat) : (0 : Int) < 10000 ^ n := Int.pow_pos (by decide)
theorem val_bounds {l : List Int} (h : Digs l) : 0 ≤ val l ∧ val l < 10000 ^ l.length := by
  induction l with
  | nil => simp [val]
  | cons d l ih =>
    have h1 := h.head
    have h2 := ih h.tail
    simp only [val, List.length_cons, Int.pow_succ]
    omega
theorem val_split (l : List Int) (n : Nat) : val l = val (l.take n) + 10000 ^ (l.take n).length * val (l.drop n) := by
  rw [← val_app, List.take_append_drop]
theorem canon_len {l : List Int} (h : Canon l) {k : Nat} (hv : val l < 10000 ^ k) : l.length ≤ k := by
  rcases Nat.lt_or_ge k l.length with hk | hk
  · exfalso
    obtain ⟨hd, hl⟩ := h
    rcases List.eq_nil_or_concat l with rfl | ⟨m, d, rfl⟩
    · simp at hk
    · have hne : d ≠ 0 := hl d (by simp)
      have hdd := hd d (by simp)
      have hm : Digs m := fun x hx => hd x (by simp [hx])
      have hb := val_bounds hm
      simp only [List.concat_eq_append, val_app, val, Int.mul_zero, Int.add_zero] at hv
      simp only [List.concat_eq_append, List.length_append, List.length_cons, List.length_nil] at hk
      have hpow : (10000 : Int) ^ k ≤ 10000 ^ m.length := by
        obtain ⟨j, hj⟩ : ∃ j, m.length = k + j := ⟨m.length - k, by omega⟩
        rw [hj, Int.pow_add]
        have := pow_pos' j
        have := pow_pos' k
        have := Int.mul_le_mul_of_nonneg_left (show (1 : Int) ≤ 10000 ^ j by omega) (show (0 : Int) ≤ 10000 ^ k by omega)
        omega
      have : (10000 : Int) ^ m.length * 1 ≤ 10000 ^ m.length * d := Int.mul_le_mul_of_nonneg_left (by omega) (by have := pow_pos' m.length; omega)
      omega
  · exact hk
theorem canon_tail {d : Int} {l : List Int} (h : Canon (d :: l)) : Canon l := by
  refine ⟨h.1.tail, fun x hx => h.2 x ?_⟩
  rw [List.getLast?_cons, hx]; rfl
theorem canon_uniq : ∀ {l m : List Int}, Canon l → Canon m → val l = val m → l = m
  | [], [], _, _, _ => rfl
  | [], d :: m, _, h, e => by
    exfalso
    have := canon_len h (k := 0) (by rw [← e]; decide)
    simp at this
  | d :: l, [], h, _, e => by
    exfalso
    have := canon_len h (k := 0) (by rw [e]; decide)
    simp at this
  | d :: l, d' :: m, h, h', e => by
    have h1 := h.1.head
    have h2 := h'.1.head
    simp only [val] at e
    have e1 : d = d' := by omega
    have e2 : val l = val m := by omega
    rw [e1, canon_uniq (canon_tail h) (canon_tail h') e2]
theorem getD_idx {l : List Int} {i : Int} (h0 : 0 ≤ i) (h1 : i < l.length) : idx l i = some (l.getD i.toNat 0) := by
  rw [idx_pos h0]
  simp only [List.getD]
  rw [List.getElem?_eq_getElem (by omega)]; rfl
theorem take_succ_getD {l : List Int} {n : Nat} (h : n < l.length) : l.take (n + 1) = l.take n ++ [l.getD n 0] := by
  rw [List.take_add_one]
  simp only [List.getD, List.getElem?_eq_getElem h]; rfl
theorem Digs.getD {l : List Int} (h : Digs l) (n : Nat) : 0 ≤ l.getD n 0 ∧ l.getD n 0 ≤ 9999 := by
  simp only [List.getD]
  cases hx : l[n]? with
  | none => simp
  | some d => exact h d (List.mem_of_getElem? hx)
theorem trim_l1 (d : List Int) (hd : d.length ≤ 1000000) : ∀ (n : Nat), n ≤ d.length → val (d.drop n) = 0 → Digs d →
    ∃ r : Nat, iter (m_cocketref01_trim_l1 d) (n : Int) = some (r : Int) ∧ r ≤ d.length ∧ val (d.drop r) = 0 ∧ (r = 0 ∨ d.getD (r - 1) 0 ≠ 0)
  | 0, _, h, _ => by
    refine ⟨0, iter_done ?_, Nat.zero_le _, h, .inl rfl⟩
    rw [m_cocketref01_trim_l1]; rfl
  | n + 1, hn, h, hD => by
    have e0 : decide ((0 : Int) < ((n + 1 : Nat) : Int)) = true := by simp
    have ew : IntKind.i64.wrap (((n + 1 : Nat) : Int) - 1) = (n : Int) := by rw [wrap_i64_eq (by omega)]; omega
    have ei : idx d (n : Int) = some (d.getD n 0) := getD_idx (by omega) (by omega)
    by_cases hz : d.getD n 0 = 0
    · have hdz : val (d.drop n) = 0 := by
        rw [List.drop_eq_getElem_cons (by omega)]
        have : d[n] = 0 := by
          rw [← hz]; simp [List.getD, List.getElem?_eq_getElem (show n < d.length by omega)]
        simp only [val, this, h]; omega
      obtain ⟨r, h1, h2⟩ := trim_l1 d hd n (by omega) hdz hD
      refine ⟨r, iter_step (s' := (n : Int)) ?_ h1, h2⟩
      rw [m_cocketref01_trim_l1, e0, ew]
      simp only [cond_true, ei, Option.bind_some, hz, decide_true]
    · refine ⟨n + 1, iter_done ?_, hn, h, .inr (by simpa using hz)⟩
      rw [m_cocketref01_trim_l1, e0, ew]
      simp only [cond_true, ei, Option.bind_some, hz, decide_false, cond_false]
theorem trim_l2 (d : List Int) (r : Nat) (hr : r ≤ d.length) (hd : d.length ≤ 1000000) : ∀ (k i : Nat), k = r - i → i ≤ r → iter (m_cocketref01_trim_l2 d (r : Int)) ((i : Int), d.take i) = some (d.take r)
  | 0, i, hk, hi => by
    have : i = r := by omega
    subst this
    refine iter_done ?_
    rw [m_cocketref01_trim_l2]
    have e : decide ((i : Int) < (i : Int)) = false := by simp
    rw [e]; rfl
  | k + 1, i, hk, hi => by
    refine iter_step (s' := (((i + 1 : Nat) : Int), d.take (i + 1))) ?_ (trim_l2 d r hr hd k (i + 1) (by omega) (by omega))
    rw [m_cocketref01_trim_l2]
    have e : decide ((i : Int) < (r : Int)) = true := by simp; omega
    have ei : idx d (i : Int) = some (d.getD i 0) := getD_idx (by omega) (by omega)
    rw [e]
    simp only [cond_true, ei, Option.bind_some]
    rw [guardO_pos (by simp; omega), wrap_i64_eq (by omega), take_succ_getD (by omega)]
    rfl
theorem trim_eq {d : List Int} (hd : d.length ≤ 1000000) (hD : Digs d) : ∃ r, m_cocketref01_trim d = some r ∧ Canon r ∧ val r = val d ∧ r.length ≤ d.length := by
  obtain ⟨r, h1, h2, h3, h4⟩ := trim_l1 d hd d.length (Nat.le_refl _) (by rw [List.drop_length]; rfl) hD
  have h5 := trim_l2 d r h2 hd r 0 (by omega) (by omega)
  refine ⟨d.take r, ?_, ⟨hD.take r, fun x hx => ?_⟩, ?_, by simp; omega⟩
  · rw [m_cocketref01_trim, h1]
    simp only [Option.bind_some]
    rw [show ((0 : Int), ([] : List Int)) = (((0 : Nat) : Int), d.take 0) by simp, h5]; rfl
  · rcases h4 with h4 | h4
    · subst h4; simp at hx
    · have hr1 : 1 ≤ r := by
        rcases Nat.eq_zero_or_pos r with h | h
        · subst h; simp at hx
        · exact h
      obtain ⟨j, rfl⟩ : ∃ j, r = j + 1 := ⟨r - 1, by omega⟩
      rw [take_succ_getD (by omega)] at hx
      simp at hx
      subst hx; simpa using h4
  · rw [val_split d r, h3]; omega
structure IsB (b : Big) (x : Int) : Prop where
  pos : b.Neg = false
  can : Canon b.D
  val : val b.D = x
theorem IsB.uniq {b c : Big} {x : Int} (h : IsB b x) (h' : IsB c x) : b = c := by
  obtain ⟨n, d⟩ := b
  obtain ⟨n', d'⟩ := c
  have h1 := h.pos
  have h2 := h'.pos
  have h3 := canon_uniq h.can h'.can (h.val.trans h'.val.symm)
  simp only at h1 h2 h3
  subst h1 h2 h3; rfl
theorem IsB.nonneg {b : Big} {x : Int} (h : IsB b x) : 0 ≤ x := by rw [← h.val]; exact (val_bounds h.can.1).1
theorem whole_eq {d : List Int} (hd : d.length ≤ 1000000) (hD : Digs d) : ∃ b, m_cocketref01_whole false d = some b ∧ IsB b (val d) := by
  obtain ⟨r, h1, h2, h3, _⟩ := trim_eq hd hD
  refine ⟨⟨false, r⟩, ?_, rfl, h2, h3⟩
  rw [m_cocketref01_whole, h1]; rfl
end Go.Pv

set_option linter.unusedSimpArgs false
set_option linter.unusedVariables false
namespace Go.Pv
theorem val_set : ∀ {l : List Int} {j : Nat} {x : Int}, j < l.length → val (l.set j x) = val l + (x - l.getD j 0) * 10000 ^ j
  | d :: l, 0, x, _ => by simp [val]; omega
  | d :: l, j + 1, x, h => by
    have ih := val_set (l := l) (j := j) (x := x) (by simpa using h)
    simp only [List.set_cons_succ, val, ih, List.getD_cons_succ, Int.pow_succ]
    rw [Int.mul_add, Int.mul_comm (10000 ^ j) 10000, ← Int.mul_assoc (x - l.getD j 0) 10000, Int.mul_comm (x - l.getD j 0) 10000, Int.mul_assoc]
    omega
theorem getD_set_ne {l : List Int} {j k : Nat} {x : Int} (h : j ≠ k) : (l.set j x).getD k 0 = l.getD k 0 := by
  simp only [List.getD, List.getElem?_set_ne h]
theorem getD_set_eq {l : List Int} {j : Nat} {x : Int} (h : j < l.length) : (l.set j x).getD j 0 = x := by
  simp only [List.getD, List.getElem?_set_self h]; rfl
theorem alg_mul (P T R e1 e2 e3 c V B D : Int) (ht : e1 + e2 * e3 + c = B * T + R) : V + (R - e1) * P + T * (P * B) + e2 * (P * B) * D = V + c * P + e2 * P * (e3 + B * D) := by
  have h := congrArg (· * P) ht
  simp only [Int.mul_add, Int.add_mul, Int.sub_mul, Int.mul_sub, Int.mul_assoc, Int.mul_comm, Int.mul_left_comm] at h ⊢
  omega
theorem mul9999 {x y : Int} (hx : 0 ≤ x ∧ x ≤ 9999) (hy : 0 ≤ y ∧ y ≤ 9999) : 0 ≤ x * y ∧ x * y ≤ 99980001 := by
  have h1 := Int.mul_nonneg hx.1 hy.1
  have h2 := Int.mul_le_mul hx.2 hy.2 hy.1 (show (0 : Int) ≤ 9999 by decide)
  omega
theorem mulD_l2 (a b : List Int) (i : Nat) (hi : i < a.length) (ha : Digs a) (hb : Digs b) (hab : a.length + b.length ≤ 1000000) : ∀ (n k : Nat) (c : Int) (L : List Int), n = b.length - k → k ≤ b.length → Digs L → L.length = a.length + b.length → (0 ≤ c ∧ c ≤ 9999) →
    ∃ c' L', iter (m_cocketref01_mulD_l2 a b (i : Int)) (c, (k : Int), L) = some (c', L') ∧ Digs L' ∧ L'.length = a.length + b.length ∧ (0 ≤ c' ∧ c' ≤ 9999) ∧ (∀ j, i + b.length ≤ j → L'.getD j 0 = L.getD j 0) ∧
      val L' + c' * 10000 ^ (i + b.length) = val L + c * 10000 ^ (i + k) + a.getD i 0 * 10000 ^ (i + k) * val (b.drop k)
  | 0, k, c, L, hn, hk, hD, hl, hc => by
    have e : k = b.length := by omega
    subst e
    refine ⟨c, L, iter_done ?_, hD, hl, hc, fun _ _ => rfl, ?_⟩
    · rw [m_cocketref01_mulD_l2]
      have e : decide (((b.length : Nat) : Int) < (b.length : Int)) = false := by simp
      rw [e]; rfl
    · rw [List.drop_length]; simp [val]
  | n + 1, k, c, L, hn, hk, hD, hl, hc => by
    have e : decide ((k : Int) < (b.length : Int)) = true := by simp; omega
    have ew : IntKind.i64.wrap ((i : Int) + (k : Int)) = ((i + k : Nat) : Int) := by rw [wrap_i64_eq (by omega)]; omega
    have e1 : idx L ((i + k : Nat) : Int) = some (L.getD (i + k) 0) := getD_idx (by omega) (by omega)
    have e2 : idx a (i : Int) = some (a.getD i 0) := getD_idx (by omega) (by omega)
    have e3 : idx b (k : Int) = some (b.getD k 0) := getD_idx (by omega) (by omega)
    have d1 := hD.getD (i + k)
    have d2 := ha.getD i
    have d3 := hb.getD k
    have hp := mul9999 d2 d3
    have ht0 : 0 ≤ L.getD (i + k) 0 + a.getD i 0 * b.getD k 0 + c := by omega
    have hw : IntKind.i64.wrap (IntKind.i64.wrap (L.getD (i + k) 0 + IntKind.i64.wrap (a.getD i 0 * b.getD k 0)) + c) = L.getD (i + k) 0 + a.getD i 0 * b.getD k 0 + c := by
      rw [wrap_i64_eq (x := a.getD i 0 * b.getD k 0) (by omega), wrap_i64_eq (x := L.getD (i + k) 0 + a.getD i 0 * b.getD k 0) (by omega), wrap_i64_eq (by omega)]
    have hdr : val (b.drop k) = b.getD k 0 + 10000 * val (b.drop (k + 1)) := by
      rw [List.drop_eq_getElem_cons (by omega)]
      simp [val, List.getD, List.getElem?_eq_getElem (show k < b.length by omega)]
    generalize ht : L.getD (i + k) 0 + a.getD i 0 * b.getD k 0 + c = t at *
    have hm := Int.emod_add_mul_ediv t 10000
    have hm1 := Int.emod_nonneg t (show (10000 : Int) ≠ 0 by decide)
    have hm2 := Int.emod_lt_of_pos t (show (0 : Int) < 10000 by decide)
    have hL : Digs (L.set (i + k) (t % 10000)) := hD.set _ ⟨hm1, by omega⟩
    obtain ⟨c', L', h1, h2, h3, h4, h5, h6⟩ := mulD_l2 a b i hi ha hb hab n (k + 1) (t / 10000) (L.set (i + k) (t % 10000)) (by omega) (by omega) hL (by simpa using hl) ⟨by omega, by omega⟩
    refine ⟨c', L', iter_step (s' := (t / 10000, ((k + 1 : Nat) : Int), L.set (i + k) (t % 10000))) ?_ h1, h2, h3, h4, fun j hj => ?_, ?_⟩
    · rw [m_cocketref01_mulD_l2, e, ew]
      simp only [cond_true, e1, e2, e3, Option.bind_some]
      rw [hw, tdiv_eq ht0, tmod_eq ht0, wrap_i64_eq (x := t / 10000) (by omega), wrap_i64_eq (by omega), Int.toNat_natCast]
      rfl
    · rw [h5 j hj, getD_set_ne (by omega)]
    · rw [h6, val_set (by omega), hdr, show i + (k + 1) = (i + k) + 1 by omega, Int.pow_succ]
      exact alg_mul _ _ _ _ _ _ _ _ _ _ (by omega)
theorem mulD_l1 (a b : List Int) (ha : Digs a) (hb : Digs b) (hab : a.length + b.length ≤ 1000000) : ∀ (n i : Nat) (L : List Int), n = a.length - i → i ≤ a.length → Digs L → L.length = a.length + b.length → (∀ j, i + b.length ≤ j → L.getD j 0 = 0) → val L = val (a.take i) * val b →
    ∃ L', iter (m_cocketref01_mulD_l1 a b) ((i : Int), L) = some L' ∧ Digs L' ∧ L'.length = a.length + b.length ∧ val L' = val a * val b
  | 0, i, L, hn, hi, hD, hl, hz, hv => by
    have e : i = a.length := by omega
    subst e
    refine ⟨L, iter_done ?_, hD, hl, by rw [hv, List.take_length]⟩
    rw [m_cocketref01_mulD_l1]
    have e : decide (((a.length : Nat) : Int) < (a.length : Int)) = false := by simp
    rw [e]; rfl
  | n + 1, i, L, hn, hi, hD, hl, hz, hv => by
    have e : decide ((i : Int) < (a.length : Int)) = true := by simp; omega
    obtain ⟨c', L', h1, h2, h3, h4, h5, h6⟩ := mulD_l2 a b i (by omega) ha hb hab b.length 0 0 L (by omega) (by omega) hD hl ⟨by omega, by omega⟩
    have ew : IntKind.i64.wrap ((i : Int) + (b.length : Int)) = ((i + b.length : Nat) : Int) := by rw [wrap_i64_eq (by omega)]; omega
    have e5 : idx L' ((i + b.length : Nat) : Int) = some (L'.getD (i + b.length) 0) := getD_idx (by omega) (by omega)
    have hz' : L'.getD (i + b.length) 0 = 0 := by rw [h5 _ (Nat.le_refl _)]; exact hz _ (Nat.le_refl _)
    have hv2 : val (L'.set (i + b.length) c') = val (a.take (i + 1)) * val b := by
      rw [val_set (by omega), hz', take_succ_getD (by omega), val_app, List.length_take, Nat.min_eq_left (by omega)]
      have := h6
      simp only [List.drop_zero, Nat.add_zero, Int.zero_mul, Int.add_zero, hv, val, Int.mul_zero] at this ⊢
      rw [Int.sub_zero, this, Int.add_mul, Int.mul_comm (a.getD i 0)]
    obtain ⟨L2, g1, g2, g3, g4⟩ := mulD_l1 a b ha hb hab n (i + 1) (L'.set (i + b.length) c') (by omega) (by omega) (h2.set _ h4) (by simpa using h3) (fun j hj => by rw [getD_set_ne (by omega), h5 j (by omega)]; exact hz j (by omega)) hv2
    refine ⟨L2, iter_step (s' := (((i + 1 : Nat) : Int), L'.set (i + b.length) c')) ?_ g1, g2, g3, g4⟩
    rw [m_cocketref01_mulD_l1, e]
    rw [show ((0 : Nat) : Int) = 0 from rfl] at h1
    simp only [cond_true, h1, Option.bind_some, ew, e5]
    rw [wrap_i64_eq (by omega), Int.toNat_natCast]
    rfl
theorem mulD_eq {a b : List Int} (ha : Digs a) (hb : Digs b) (hab : a.length + b.length ≤ 1000000) : ∃ r, m_cocketref01_mulD a b = some r ∧ Canon r ∧ val r = val a * val b := by
  have ew : IntKind.i64.wrap ((a.length : Int) + (b.length : Int)) = ((a.length + b.length : Nat) : Int) := by rw [wrap_i64_eq (by omega)]; omega
  obtain ⟨L, h1, h2, h3, h4⟩ := mulD_l1 a b ha hb hab a.length 0 (List.replicate (a.length + b.length) 0) (by omega) (by omega) (Digs.rep _) (by simp) (fun j _ => by
    simp only [List.getD]
    cases hx : (List.replicate (a.length + b.length) (0 : Int))[j]? with
    | none => rfl
    | some x => exact List.eq_of_mem_replicate (List.mem_of_getElem? hx)) (by rw [val_rep]; simp [val])
  obtain ⟨r, g1, g2, g3, _⟩ := trim_eq (d := L) (by omega) h2
  refine ⟨r, ?_, g2, by rw [g3, h4]⟩
  rw [show ((0 : Nat) : Int) = 0 from rfl] at h1
  rw [m_cocketref01_mulD, ew, guardO_pos ⟨by omega, by omega⟩, Int.toNat_natCast, h1]
  simp only [Option.bind_some, g1]
def sgn (x : Int) : Int := if x < 0 then -1 else if 0 < x then 1 else 0
theorem cmpD_l1 (a b : List Int) (ha : Digs a) (hb : Digs b) (hab : a.length = b.length) (hl : a.length ≤ 1000000) : ∀ (n : Nat), n ≤ a.length → a.drop n = b.drop n →
    (iter (m_cocketref01_cmpD_l1 a b) ((n : Int) - 1)).bind (fun o => match o with | .inl _ => some 0 | .inr y => some y) = some (sgn (val a - val b))
  | 0, _, h => by
    have e : a = b := by simpa using h
    subst e
    have e : decide ((0 : Int) ≤ ((0 : Nat) : Int) - 1) = false := by decide
    rw [iter_eq, m_cocketref01_cmpD_l1, e, Int.sub_self]; rfl
  | n + 1, hn, h => by
    have e0 : (((n + 1 : Nat) : Int) - 1) = (n : Int) := by omega
    have e : decide ((0 : Int) ≤ (n : Int)) = true := by simp
    have e1 : idx a (n : Int) = some (a.getD n 0) := getD_idx (by omega) (by omega)
    have e2 : idx b (n : Int) = some (b.getD n 0) := getD_idx (by omega) (by omega)
    rw [e0, iter_eq, m_cocketref01_cmpD_l1, e]
    simp only [cond_true, e1, e2, Option.bind_some]
    have hva := val_split a (n + 1)
    have hvb := val_split b (n + 1)
    rw [take_succ_getD (by omega), val_app] at hva
    rw [take_succ_getD (by omega), val_app, ← h] at hvb
    simp only [List.length_append, List.length_take, List.length_cons, List.length_nil, Nat.min_eq_left (show n ≤ a.length by omega)] at hva
    simp only [List.length_append, List.length_take, List.length_cons, List.length_nil, Nat.min_eq_left (show n ≤ b.length by omega)] at hvb
    have ba := val_bounds (ha.take n)
    have bb := val_bounds (hb.take n)
    rw [List.length_take, Nat.min_eq_left (by omega)] at ba bb
    simp only [val, Int.mul_zero, Int.add_zero] at hva hvb
    rcases Int.lt_trichotomy (a.getD n 0) (b.getD n 0) with hc | hc | hc
    · have d : decide (a.getD n 0 < b.getD n 0) = true := by simpa using hc
      have hm := Int.mul_le_mul_of_nonneg_left (show a.getD n 0 + 1 ≤ b.getD n 0 by omega) (show (0 : Int) ≤ 10000 ^ n by have := pow_pos' n; omega)
      rw [Int.mul_add, Int.mul_one] at hm
      have hs : val a - val b < 0 := by
        omega
      rw [d, sgn, if_pos hs]; rfl
    · have d : decide (a.getD n 0 < b.getD n 0) = false := decide_eq_false (by omega)
      have d2 : decide (b.getD n 0 < a.getD n 0) = false := decide_eq_false (by omega)
      have ih := cmpD_l1 a b ha hb hab hl n (by omega) (by
        rw [List.drop_eq_getElem_cons (by omega), List.drop_eq_getElem_cons (show n < b.length by omega), h]
        simp only [List.getD, List.getElem?_eq_getElem (show n < a.length by omega), List.getElem?_eq_getElem (show n < b.length by omega), Option.getD_some] at hc
        rw [hc])
      rw [d, d2, wrap_i64_eq (by omega)]
      exact ih
    · have d : decide (a.getD n 0 < b.getD n 0) = false := decide_eq_false (by omega)
      have d2 : decide (b.getD n 0 < a.getD n 0) = true := by simpa using hc
      have hm := Int.mul_le_mul_of_nonneg_left (show b.getD n 0 + 1 ≤ a.getD n 0 by omega) (show (0 : Int) ≤ 10000 ^ n by have := pow_pos' n; omega)
      rw [Int.mul_add, Int.mul_one] at hm
      have hs : 0 < val a - val b := by omega
      have hs2 : ¬ val a - val b < 0 := by omega
      rw [d, d2, sgn, if_neg hs2, if_pos hs]; rfl
theorem canon_lt {a b : List Int} (ha : Canon a) (hb : Canon b) (h : a.length < b.length) : val a < val b := by
  rcases Int.lt_or_le (val a) (val b) with h1 | h1
  · exact h1
  · have h2 := val_bounds ha.1
    have := canon_len hb (k := a.length) (by omega)
    omega
theorem cmpD_eq {a b : List Int} (ha : Canon a) (hb : Canon b) (hal : a.length ≤ 1000000) (hbl : b.length ≤ 1000000) : m_cocketref01_cmpD a b = some (sgn (val a - val b)) := by
  rw [m_cocketref01_cmpD]
  by_cases h1 : a.length < b.length
  · have d : decide ((a.length : Int) < (b.length : Int)) = true := by simp; omega
    have := canon_lt ha hb h1
    have hs : val a - val b < 0 := by omega
    rw [d, sgn, if_pos hs]; rfl
  have d : decide ((a.length : Int) < (b.length : Int)) = false := by simp; omega
  rw [d]
  by_cases h2 : b.length < a.length
  · have d : decide ((b.length : Int) < (a.length : Int)) = true := by simp; omega
    have := canon_lt hb ha h2
    have hs : 0 < val a - val b := by omega
    have hs2 : ¬ val a - val b < 0 := by omega
    rw [d, sgn, if_neg hs2, if_pos hs]; rfl
  have d2 : decide ((b.length : Int) < (a.length : Int)) = false := by simp; omega
  have hl : a.length = b.length := by omega
  have := cmpD_l1 a b ha.1 hb.1 hl hal a.length (Nat.le_refl _) (by rw [List.drop_length, List.drop_of_length_le (by omega)])
  rw [d2, wrap_i64_eq (by omega)]
  simp only [cond_false]
  obtain ⟨x, g1, g2⟩ := bind_some this
  rw [g1]
  rcases x with x | x <;> exact g2
end Go.Pv

set_option linter.unusedSimpArgs false
set_option linter.unusedVariables false
namespace Go.Pv
theorem val_take_succ (l : List Int) (i : Nat) : val (l.take (i + 1)) = val (l.take i) + 10000 ^ i * l.getD i 0 := by
  rcases Nat.lt_or_ge i l.length with h | h
  · rw [take_succ_getD h, val_app, List.length_take, Nat.min_eq_left (by omega)]
    simp only [val, Int.mul_zero, Int.add_zero]
  · rw [List.take_of_length_le (by omega), List.take_of_length_le (by omega)]
    have : l.getD i 0 = 0 := by simp [List.getD, List.getElem?_eq_none (show l.length ≤ i by omega)]
    rw [this]; omega
theorem val_drop (l : List Int) (n : Nat) (h : n < l.length) : val (l.drop n) = l.getD n 0 + 10000 * val (l.drop (n + 1)) := by
  rw [List.drop_eq_getElem_cons h]
  simp [val, List.getD, List.getElem?_eq_getElem h]
theorem subD_l1 (a b : List Int) (ha : Digs a) (hb : Digs b) (hl : a.length ≤ 1000000) (hbl : b.length ≤ 1000000) : ∀ (n i : Nat) (br : Int) (L : List Int), n = a.length - i → i ≤ a.length → (br = 0 ∨ br = 1) → Digs L → L.length = i →
    val L = val (a.take i) - val (b.take i) + br * 10000 ^ i → ∃ L' br', iter (m_cocketref01_subD_l1 a b) (br, (i : Int), L) = some L' ∧ (br' = 0 ∨ br' = 1) ∧ Digs L' ∧ L'.length = a.length ∧ val L' = val a - val (b.take a.length) + br' * 10000 ^ a.length
  | 0, i, br, L, hn, hi, hbr, hD, hL, hv => by
    have e : i = a.length := by omega
    subst e
    refine ⟨L, br, iter_done ?_, hbr, hD, hL, by rw [hv, List.take_length]⟩
    rw [m_cocketref01_subD_l1]
    have e : decide (((a.length : Nat) : Int) < (a.length : Int)) = false := by simp
    rw [e]; rfl
  | n + 1, i, br, L, hn, hi, hbr, hD, hL, hv => by
    have e : decide ((i : Int) < (a.length : Int)) = true := decide_eq_true (by omega)
    have e1 : idx a (i : Int) = some (a.getD i 0) := getD_idx (by omega) (by omega)
    have d1 := ha.getD i
    have d2 := hb.getD i
    have hs : ((cond (decide ((i : Int) < (b.length : Int))) ((idx b (i : Int)).bind fun e2 => some (IntKind.i64.wrap ((IntKind.i64.wrap (a.getD i 0 - br)) - e2))) (some (IntKind.i64.wrap (a.getD i 0 - br)))) : Option Int) = some (a.getD i 0 - br - b.getD i 0) := by
      by_cases hib : i < b.length
      · have d : decide ((i : Int) < (b.length : Int)) = true := decide_eq_true (by omega)
        have e2 : idx b (i : Int) = some (b.getD i 0) := getD_idx (by omega) (by omega)
        rw [d]
        simp only [cond_true, e2, Option.bind_some]
        rw [wrap_i64_eq (x := a.getD i 0 - br) (by omega), wrap_i64_eq (by omega)]
      · have d : decide ((i : Int) < (b.length : Int)) = false := decide_eq_false (by omega)
        have hz : b.getD i 0 = 0 := by simp [List.getD, List.getElem?_eq_none (show b.length ≤ i by omega)]
        rw [d, hz]
        simp only [cond_false]
        rw [wrap_i64_eq (by omega)]
        simp
    have ea := val_take_succ a i
    have eb := val_take_succ b i
    generalize ht : a.getD i 0 - br - b.getD i 0 = t at hs
    have hb2 : ∃ br2 s2, ((cond (decide (t < 0)) (some (1, IntKind.i64.wrap (t + 10000))) (some (0, t))) : Option (Int × Int)) = some (br2, s2) ∧ (br2 = 0 ∨ br2 = 1) ∧ (0 ≤ s2 ∧ s2 ≤ 9999) ∧ s2 = t + br2 * 10000 := by
      by_cases hn : t < 0
      · refine ⟨1, t + 10000, ?_, .inr rfl, by omega, by omega⟩
        rw [decide_eq_true hn, wrap_i64_eq (by omega)]; rfl
      · refine ⟨0, t, ?_, .inl rfl, by omega, by omega⟩
        rw [decide_eq_false hn]; rfl
    obtain ⟨br2, s2, hbs, hbr2, hs2, hst⟩ := hb2
    have hv2 : val (L ++ [s2]) = val (a.take (i + 1)) - val (b.take (i + 1)) + br2 * 10000 ^ (i + 1) := by
      rw [val_app, hL, ea, eb, hv, Int.pow_succ]
      simp only [val, Int.mul_zero, Int.add_zero]
      have h1 := congrArg (· * (10000 : Int) ^ i) (hst.trans (by rw [← ht]))
      generalize (10000 : Int) ^ i = P at *
      generalize a.getD i 0 = A at *
      generalize b.getD i 0 = B at *
      simp only [Int.mul_add, Int.add_mul, Int.sub_mul, Int.mul_sub, Int.mul_assoc, Int.mul_comm, Int.mul_left_comm] at h1 ⊢
      omega
    obtain ⟨L', br', g1, g2⟩ := subD_l1 a b ha hb hl hbl n (i + 1) br2 (L ++ [s2]) (by omega) (by omega) hbr2 (hD.app (Digs.cons hs2 Digs.nil)) (by simp; omega) hv2
    refine ⟨L', br', iter_step (s' := (br2, ((i + 1 : Nat) : Int), L ++ [s2])) ?_ g1, g2⟩
    rw [m_cocketref01_subD_l1, e]
    simp only [cond_true, e1, Option.bind_some, hs, hbs]
    rw [guardO_pos (by simp; omega), wrap_i64_eq (by omega)]
    rfl
theorem subD_eq {a b : List Int} (ha : Canon a) (hb : Canon b) (hal : a.length ≤ 1000000) (hle : val b ≤ val a) : ∃ r, m_cocketref01_subD a b = some r ∧ Canon r ∧ val r = val a - val b ∧ r.length ≤ a.length := by
  have hbl : b.length ≤ a.length := by
    rcases Nat.lt_or_ge a.length b.length with h | h
    · have := canon_lt ha hb h; omega
    · exact h
  obtain ⟨L, br, h1, h2, h3, h4, h5⟩ := subD_l1 a b ha.1 hb.1 hal (by omega) a.length 0 0 [] (by omega) (by omega) (.inl rfl) Digs.nil rfl (by simp [val])
  rw [List.take_of_length_le hbl] at h5
  have hb0 : br = 0 := by
    rcases h2 with h | h
    · exact h
    · have := (val_bounds h3).2
      rw [h4] at this
      subst h; omega
  subst hb0
  obtain ⟨r, g1, g2, g3, g4⟩ := trim_eq (d := L) (by omega) h3
  refine ⟨r, ?_, g2, by rw [g3, h5]; omega, by omega⟩
  rw [show ((0 : Nat) : Int) = 0 from rfl] at h1
  rw [m_cocketref01_subD, h1]
  simp only [Option.bind_some, g1]
theorem sgn_le (x : Int) : sgn x ≤ 0 ↔ x ≤ 0 := by
  unfold sgn
  split
  · omega
  · split <;> omega
theorem sgn_pos (x : Int) : 0 < sgn x ↔ 0 < x := by
  unfold sgn
  split
  · omega
  · split <;> omega
theorem sgn_zero (x : Int) : sgn x = 0 ↔ x = 0 := by
  unfold sgn
  split
  · omega
  · split <;> omega
theorem digs1 {x : Int} (h : 0 ≤ x ∧ x ≤ 9999) : Digs [x] := Digs.cons h Digs.nil
theorem mulB {b : List Int} (hb : Canon b) (hbl : b.length ≤ 1000) {q : Int} (hq : 0 ≤ q ∧ q ≤ 9999) : ∃ r2 r3, m_cocketref01_trim [q] = some r2 ∧ m_cocketref01_mulD b r2 = some r3 ∧ Canon r3 ∧ val r3 = val b * q ∧ r3.length ≤ 2000 := by
  obtain ⟨r2, h1, h2, h3, h4⟩ := trim_eq (d := [q]) (by simp) (digs1 hq)
  obtain ⟨r3, g1, g2, g3⟩ := mulD_eq (a := b) (b := r2) hb.1 h2.1 (by simp at h4; omega)
  refine ⟨r2, r3, h1, g1, g2, by rw [g3, h3]; simp [val], ?_⟩
  have hb2 := val_bounds hb.1
  have hb3 := val_bounds h2.1
  refine Nat.le_trans (canon_len g2 (k := b.length + r2.length) ?_) (by simp at h4; omega)
  rw [g3, Int.pow_add]
  exact Int.mul_lt_mul' (by omega) hb3.2 hb3.1 (pow_pos' _)
theorem divD_l2 {b r1 : List Int} (hb : Canon b) (hbl : b.length ≤ 1000) (hr : Canon r1) (hrl : r1.length ≤ 2000) (h0 : 0 < val b) (hlt : val r1 < val b * 10000) :
    ∃ q, iter (m_cocketref01_divD_l2 b r1) (0, 9999) = some q ∧ (0 ≤ q ∧ q ≤ 9999 ∧ val b * q ≤ val r1 ∧ val r1 < val b * (q + 1)) := by
  have hr0 := (val_bounds hr.1).1
  refine iter_inv (fun s : Int × Int => 0 ≤ s.1 ∧ s.1 ≤ s.2 ∧ s.2 ≤ 9999 ∧ val b * s.1 ≤ val r1 ∧ val r1 < val b * (s.2 + 1)) _ (fun s => (s.2 - s.1).toNat) ?_ ⟨by decide, by decide, by decide, by simpa using hr0, by simpa using hlt⟩
  rintro ⟨lo, hi⟩ ⟨h1, h2, h3, h4, h5⟩
  dsimp only at h1 h2 h3 h4 h5
  rw [m_cocketref01_divD_l2]
  by_cases hc : lo < hi
  · rw [decide_eq_true hc]
    have hw : IntKind.i64.wrap ((IntKind.i64.wrap ((IntKind.i64.wrap (lo + hi)) + 1)).tdiv 2) = (lo + hi + 1) / 2 := by
      rw [wrap_i64_eq (x := lo + hi) (by omega), wrap_i64_eq (x := lo + hi + 1) (by omega), tdiv_eq (by omega), wrap_i64_eq (by omega)]
    rw [hw]
    generalize hm : (lo + hi + 1) / 2 = m
    have hm1 : lo < m ∧ m ≤ hi := by omega
    obtain ⟨r2, r3, g1, g2, g3, g4, g5⟩ := mulB hb hbl (q := m) (by omega)
    simp only [cond_true, g1, g2, Option.bind_some, cmpD_eq g3 hr (by omega) (by omega)]
    by_cases hle : val b * m ≤ val r1
    · have hs : sgn (val r3 - val r1) ≤ 0 := (sgn_le _).2 (by omega)
      rw [decide_eq_true hs]
      exact ⟨_, rfl, ⟨by dsimp only; omega, by dsimp only; omega, h3, hle, h5⟩, by dsimp only; omega⟩
    · have hs : ¬ sgn (val r3 - val r1) ≤ 0 := fun h => by have := (sgn_le _).1 h; omega
      rw [decide_eq_false hs, wrap_i64_eq (by omega)]
      exact ⟨_, rfl, ⟨h1, by dsimp only; omega, by dsimp only; omega, h4, by dsimp only; rw [show m - 1 + 1 = m by omega]; omega⟩, by dsimp only; omega⟩
  · rw [decide_eq_false hc]
    have : lo = hi := by omega
    subst this
    exact ⟨_, rfl, h1, h3, h4, h5⟩
theorem alg_div (e Q b r q r' : Int) (h : r' = e + 10000 * r - b * q) : e + 10000 * (Q * b + r) = (q + 10000 * Q) * b + r' := by
  subst h
  generalize (10000 : Int) = K
  simp only [Int.mul_add, Int.add_mul, Int.sub_mul, Int.mul_sub, Int.mul_assoc, Int.mul_comm, Int.mul_left_comm]
  omega
theorem divD_l1 (a b : List Int) (ha : Digs a) (hal : a.length ≤ 1000) (hb : Canon b) (hbl : b.length ≤ 1000) (h0 : 0 < val b) : ∀ (n : Nat) (rem L : List Int), n ≤ a.length → Canon rem → val rem < val b → Digs L → L.length = a.length →
    val (a.drop n) = val (L.drop n) * val b + val rem →
    ∃ rem' L', iter (m_cocketref01_divD_l1 a b) (rem, (n : Int) - 1, L) = some (rem', L') ∧ Canon rem' ∧ val rem' < val b ∧ Digs L' ∧ L'.length = a.length ∧ val a = val L' * val b + val rem'
  | 0, rem, L, hn, hr, hrb, hD, hL, hv => by
    refine ⟨rem, L, iter_done ?_, hr, hrb, hD, hL, by simpa using hv⟩
    rw [m_cocketref01_divD_l1]; rfl
  | n + 1, rem, L, hn, hr, hrb, hD, hL, hv => by
    have e0 : (((n + 1 : Nat) : Int) - 1) = (n : Int) := by omega
    have e : decide ((0 : Int) ≤ (n : Int)) = true := by simp
    have e1 : idx a (n : Int) = some (a.getD n 0) := getD_idx (by omega) (by omega)
    have e2 : idx L (n : Int) = some (L.getD n 0) := getD_idx (by omega) (by omega)
    have d1 := ha.getD n
    have hr0 := (val_bounds hr.1).1
    have hrl : rem.length ≤ b.length := canon_len hr (by have := (val_bounds hb.1).2; omega)
    obtain ⟨r1, f1, f2, f3, f4⟩ := trim_eq (d := [a.getD n 0] ++ rem) (by simp; omega) ((digs1 d1).app hr.1)
    have hr1 : val r1 = a.getD n 0 + 10000 * val rem := by rw [f3]; rfl
    have hr1l : r1.length ≤ 2000 := by simp at f4; omega
    obtain ⟨q, g1, g2, g3, g4, g5⟩ := divD_l2 hb hbl f2 hr1l h0 (by rw [hr1]; omega)
    obtain ⟨r5, r6, k1, k2, k3, k4, k5⟩ := mulB hb hbl (q := q) ⟨g2, g3⟩
    obtain ⟨r7, s1, s2, s3, s4⟩ := subD_eq f2 k3 (by omega) (by omega)
    have hr7 : val r7 < val b := by
      rw [s3, k4]
      rw [Int.mul_add] at g5
      omega
    have hv2 : val (a.drop n) = val ((L.set n q).drop n) * val b + val r7 := by
      rw [val_drop a n (by omega), val_drop (L.set n q) n (by simp; omega), getD_set_eq (by omega), hv]
      have hdrop : (L.set n q).drop (n + 1) = L.drop (n + 1) := by rw [List.drop_set]; simp
      rw [hdrop]
      exact alg_div _ _ _ _ _ _ (by rw [s3, k4, hr1])
    obtain ⟨rem', L', t1, t2⟩ := divD_l1 a b ha hal hb hbl h0 n r7 (L.set n q) (by omega) s2 hr7 (hD.set n ⟨g2, g3⟩) (by simpa using hL) hv2
    refine ⟨rem', L', iter_step (s' := (r7, (n : Int) - 1, L.set n q)) ?_ t1, t2⟩
    rw [e0, m_cocketref01_divD_l1, e]
    simp only [cond_true, e1, Option.bind_some]
    rw [guardO_pos (by omega), f1]
    simp only [Option.bind_some, g1, e2, k1, k2, s1, Int.toNat_natCast]
    rw [wrap_i64_eq (by omega)]
theorem divD_eq {a b : List Int} (ha : Canon a) (hal : a.length ≤ 1000) (hb : Canon b) (hbl : b.length ≤ 1000) (h0 : 0 < val b) : ∃ q r, m_cocketref01_divD a b = some (q, r) ∧ Canon q ∧ Canon r ∧ val q = val a / val b ∧ val r = val a % val b := by
  have hbne : b.length ≠ 0 := fun h => by
    have : b = [] := List.length_eq_zero_iff.1 h
    subst this; simp [val] at h0
  have hb0 : decide ((b.length : Int) = 0) = false := decide_eq_false (by omega)
  obtain ⟨rem, L, h1, h2, h3, h4, h5, h6⟩ := divD_l1 a b ha.1 hal hb hbl h0 a.length [] (List.replicate a.length 0) (Nat.le_refl _) Canon.nil (by simpa [val] using h0) (Digs.rep _) (by simp) (by simp [val])
  obtain ⟨q, g1, g2, g3, g4⟩ := trim_eq (d := L) (by omega) h4
  have hr0 := (val_bounds h2.1).1
  have hq : val a / val b = val L := by
    rw [h6, Int.add_comm, Int.add_mul_ediv_right _ _ (by omega), Int.ediv_eq_zero_of_lt hr0 h3]; omega
  have hr : val a % val b = val rem := by
    rw [h6, Int.add_comm, Int.add_mul_emod_self_right, Int.emod_eq_of_lt hr0 h3]
  refine ⟨q, rem, ?_, g2, h2, by rw [g3, hq], hr.symm⟩
  rw [m_cocketref01_divD, hb0]
  simp only [cond_false]
  rw [guardO_pos ⟨by omega, by omega⟩, wrap_i64_eq (by omega), Int.toNat_natCast, h1]
  simp only [Option.bind_some, g1]
theorem gcdD_eq {a b : List Int} (ha : Canon a) (hal : a.length ≤ 1000) (hb : Canon b) (hbl : b.length ≤ 1000) : ∃ r, m_cocketref01_gcdD a b = some r ∧ Canon r ∧ val r = Int.gcd (val a) (val b) := by
  have key : ∃ x, iter m_cocketref01_gcdD_l1 (a, b) = some x ∧ (Canon x ∧ val x = Int.gcd (val a) (val b)) := by
    refine iter_inv (fun s => Canon s.1 ∧ Canon s.2 ∧ s.1.length ≤ 1000 ∧ s.2.length ≤ 1000 ∧ Int.gcd (val s.1) (val s.2) = Int.gcd (val a) (val b)) _ (fun s => (val s.2).toNat) ?_ ⟨ha, hb, hal, hbl, rfl⟩
    rintro ⟨x, y⟩ ⟨h1, h2, h3, h4, h5⟩
    dsimp only at h1 h2 h3 h4 h5
    rw [m_cocketref01_gcdD_l1]
    have hx0 := (val_bounds h1.1).1
    have hy0 := (val_bounds h2.1).1
    by_cases hc : (0 : Int) < (y.length : Int)
    · rw [decide_eq_true hc]
      have hy : 0 < val y := by
        rcases Int.lt_or_le 0 (val y) with h | h
        · exact h
        · have := canon_len h2 (k := 0) (by simp; omega)
          omega
      obtain ⟨q, r, g1, g2, g3, g4, g5⟩ := divD_eq h1 h3 h2 h4 hy
      have hr1 := Int.emod_nonneg (val x) (show val y ≠ 0 by omega)
      have hr2 := Int.emod_lt_of_pos (val x) hy
      have hrl : r.length ≤ y.length := canon_len g3 (by have := (val_bounds h2.1).2; omega)
      simp only [cond_true, g1, Option.bind_some]
      refine ⟨_, rfl, ⟨h2, g3, h4, by dsimp only; omega, ?_⟩, by dsimp only; omega⟩
      dsimp only
      rw [← h5, g5, Int.gcd_comm (val x) (val y)]
      have := Int.gcd_add_mul_left_right (val y) (val x % val y) (val x / val y)
      rw [Int.emod_add_mul_ediv] at this
      exact this.symm
    · rw [decide_eq_false hc]
      have hy : y = [] := List.length_eq_zero_iff.1 (by omega)
      subst hy
      refine ⟨_, rfl, h1, ?_⟩
      rw [← h5]; simp [val]; omega
  obtain ⟨x, h1, h2, h3⟩ := key
  exact ⟨x, by rw [m_cocketref01_gcdD, h1]; rfl, h2, h3⟩
end Go.Pv

set_option linter.unusedSimpArgs false
set_option linter.unusedVariables false
namespace Go.Pv
theorem IsB.len {b : Big} {x : Int} (h : IsB b x) {k : Nat} (hx : x < 10000 ^ k) : b.D.length ≤ k := canon_len h.can (by rw [h.val]; exact hx)
theorem pow_le_pow {a b : Nat} (h : a ≤ b) : (10000 : Int) ^ a ≤ 10000 ^ b := by
  obtain ⟨j, rfl⟩ : ∃ j, b = a + j := ⟨b - a, by omega⟩
  rw [Int.pow_add]
  have := Int.mul_le_mul_of_nonneg_left (show (1 : Int) ≤ 10000 ^ j by have := pow_pos' j; omega) (show (0 : Int) ≤ 10000 ^ a by have := pow_pos' a; omega)
  omega
theorem Of_l1 : ∀ (k : Nat) (n : Int) (L : List Int), 0 ≤ n → n ≤ 9223372036854775807 → n < 10000 ^ k → L.length + k ≤ 1000 → Digs L → ∃ L', iter m_cocketref01_Of_l1 (n, L) = some L' ∧ Digs L' ∧ L'.length ≤ 1000 ∧ val L' = val L + 10000 ^ L.length * n
  | 0, n, L, h0, h1, h2, h3, hD => by
    have : n = 0 := by simp at h2; omega
    subst this
    exact ⟨L, iter_done (by rw [m_cocketref01_Of_l1]; rfl), hD, by omega, by simp⟩
  | k + 1, n, L, h0, h1, h2, h3, hD => by
    by_cases hn : n = 0
    · subst hn
      exact ⟨L, iter_done (by rw [m_cocketref01_Of_l1]; rfl), hD, by omega, by simp⟩
    have hm := Int.emod_add_mul_ediv n 10000
    have hm1 := Int.emod_nonneg n (show (10000 : Int) ≠ 0 by decide)
    have hm2 := Int.emod_lt_of_pos n (show (0 : Int) < 10000 by decide)
    rw [Int.pow_succ] at h2
    obtain ⟨L', g1, g2, g3, g4⟩ := Of_l1 k (n / 10000) (L ++ [n % 10000]) (by omega) (by omega) (by omega) (by simp; omega) (hD.app (digs1 ⟨hm1, by omega⟩))
    refine ⟨L', iter_step (s' := (n / 10000, L ++ [n % 10000])) ?_ g1, g2, g3, ?_⟩
    · rw [m_cocketref01_Of_l1, tmod_eq h0, tdiv_eq h0, wrap_i64_eq (x := n / 10000) (by omega), decide_eq_true hn, decide_eq_false (show ¬ n % 10000 < 0 by omega)]
      simp only [cond_true, cond_false, Option.bind_some]
      rw [guardO_pos (by simp; omega)]
    · rw [g4, val_app, List.length_append, List.length_singleton, Int.pow_succ]
      simp only [val, Int.mul_zero, Int.add_zero]
      have := congrArg ((10000 : Int) ^ L.length * ·) hm
      simp only [Int.mul_add] at this
      rw [← Int.mul_assoc] at this
      omega
theorem Of_eq {n : Int} (h : 0 ≤ n ∧ n ≤ 9223372036854775807) : ∃ b, m_cocketref01_Of n = some b ∧ IsB b n := by
  obtain ⟨L, h1, h2, h3, h4⟩ := Of_l1 5 n [] h.1 h.2 (by have : (10000 : Int) ^ 5 = 100000000000000000000 := by decide
                                                         omega) (by simp) Digs.nil
  obtain ⟨b, g1, g2⟩ := whole_eq (d := L) (by omega) h2
  refine ⟨b, ?_, ?_⟩
  · rw [m_cocketref01_Of, h1]
    simp only [Option.bind_some]
    rw [decide_eq_false (show ¬ n < 0 by omega), g1]; rfl
  · have : val L = n := by rw [h4]; simp [val]
    rw [← this]; exact g2
theorem Times_eq {a b : Big} {x y : Int} (ha : IsB a x) (hb : IsB b y) (hx : x < 10000 ^ 40) (hy : y < 10000 ^ 40) : ∃ r, m_cocketref01_Times a b = some r ∧ IsB r (x * y) := by
  obtain ⟨r, h1, h2, h3⟩ := mulD_eq (a := a.D) (b := b.D) ha.can.1 hb.can.1 (by have := ha.len hx; have := hb.len hy; omega)
  have hl : r.length ≤ 80 := canon_len h2 (by
    rw [h3, ha.val, hb.val, show 80 = 40 + 40 from rfl, Int.pow_add]
    exact Int.mul_lt_mul' (by omega) hy hb.nonneg (pow_pos' _))
  obtain ⟨w, g1, g2⟩ := whole_eq (d := r) (by omega) h2.1
  refine ⟨w, ?_, ?_⟩
  · rw [m_cocketref01_Times, h1, ha.pos, hb.pos]
    simp only [Option.bind_some, beq_self_eq_true, Bool.not_true, g1]
  · rw [h3, ha.val, hb.val] at g2; exact g2
theorem Over_eq {a b : Big} {x y : Int} (ha : IsB a x) (hb : IsB b y) (hx : x < 10000 ^ 100) (hy : y < 10000 ^ 100) (h0 : 0 < y) : ∃ r, m_cocketref01_Over a b = some r ∧ IsB r.1 (x / y) ∧ IsB r.2 (x % y) := by
  obtain ⟨q, r, h1, h2, h3, h4, h5⟩ := divD_eq (a := a.D) (b := b.D) ha.can (by have := ha.len hx; omega) hb.can (by have := hb.len hy; omega) (by rw [hb.val]; exact h0)
  have hx0 := ha.nonneg
  rw [ha.val, hb.val] at h4 h5
  have hql : q.length ≤ 100 := canon_len h2 (by rw [h4]; have := Int.ediv_le_self y hx0; omega)
  have hrl : r.length ≤ 100 := canon_len h3 (by rw [h5]; have := Int.emod_lt_of_pos x h0; omega)
  obtain ⟨w, g1, g2⟩ := whole_eq (d := q) (by omega) h2.1
  obtain ⟨w', g1', g2'⟩ := whole_eq (d := r) (by omega) h3.1
  refine ⟨(w, w'), ?_, by rw [h4] at g2; exact g2, by rw [h5] at g2'; exact g2'⟩
  rw [m_cocketref01_Over, h1, ha.pos]
  simp only [Option.bind_some, Bool.not_false, cond_true, g1, g1']
structure IsQ (q : Q) (r : Ratio) : Prop where
  num : IsB q.N r.Num
  den : IsB q.D r.Den
theorem IsQ.uniq {p q : Q} {r : Ratio} (h : IsQ p r) (h' : IsQ q r) : p = q := by
  obtain ⟨n, d⟩ := p
  obtain ⟨n', d'⟩ := q
  have h1 := h.num.uniq h'.num
  have h2 := h.den.uniq h'.den
  simp only at h1 h2
  rw [h1, h2]
theorem lowest_eq {a b : Big} {x y : Int} (ha : IsB a x) (hb : IsB b y) (hx : x < 10000 ^ 100) (hy : y < 10000 ^ 100) (h0 : 0 < y) : ∃ q, m_cocketref01_lowest a b = some q ∧ IsQ q (ratioN x y) := by
  obtain ⟨g, h1, h2, h3⟩ := gcdD_eq (a := a.D) (b := b.D) ha.can (by have := ha.len hx; omega) hb.can (by have := hb.len hy; omega)
  rw [ha.val, hb.val] at h3
  have hg : 0 < Int.gcd x y := Int.gcd_pos_of_ne_zero_right _ (by omega)
  have hgy : (Int.gcd x y : Int) ≤ y := Int.le_of_dvd h0 (Int.gcd_dvd_right _ _)
  have hgl : g.length ≤ 100 := canon_len h2 (by rw [h3]; omega)
  obtain ⟨w, g1, g2⟩ := whole_eq (d := g) (by omega) h2.1
  rw [h3] at g2
  obtain ⟨r1, k1, k2, _⟩ := Over_eq ha g2 hx (by omega) (by omega)
  obtain ⟨r2, m1, m2, _⟩ := Over_eq hb g2 hy (by omega) (by omega)
  refine ⟨⟨r1.1, r2.1⟩, ?_, k2, m2⟩
  rw [m_cocketref01_lowest, hb.pos]
  simp only [cond_false, Option.bind_some, h1, g1, k1, m1]
theorem small_of {x : Int} (h : x ≤ 9223372036854775807) : x < 10000 ^ 40 := by
  have h1 : (10000 : Int) ^ 5 ≤ 10000 ^ 40 := pow_le_pow (by decide)
  have h2 : (10000 : Int) ^ 5 = 100000000000000000000 := by decide
  omega
theorem lt40_100 {x : Int} (h : x < 10000 ^ 40) : x < 10000 ^ 100 := by
  have h1 : (10000 : Int) ^ 40 ≤ 10000 ^ 100 := pow_le_pow (by decide)
  omega
theorem Frac_eq {n d : Int} (hn : 1 ≤ n ∧ n ≤ 9223372036854775807) (hd : 1 ≤ d ∧ d ≤ 9223372036854775807) : ∃ q, m_cocketref01_Frac n d = some q ∧ IsQ q (ratioN n d) := by
  obtain ⟨a, h1, h2⟩ := Of_eq (n := n) ⟨by omega, hn.2⟩
  obtain ⟨b, h3, h4⟩ := Of_eq (n := d) ⟨by omega, hd.2⟩
  obtain ⟨q, h5, h6⟩ := lowest_eq h2 h4 (lt40_100 (small_of hn.2)) (lt40_100 (small_of hd.2)) (by omega)
  refine ⟨q, ?_, h6⟩
  rw [m_cocketref01_Frac, h1, h3]
  simp only [Option.bind_some, h5]
def mulN (p q : Ratio) : Ratio := ratioN (p.Num * q.Num) (p.Den * q.Den)
structure RatOk (r : Ratio) (m : Int) : Prop where
  n1 : 1 ≤ r.Num
  n2 : r.Num ≤ m
  d1 : 1 ≤ r.Den
  d2 : r.Den ≤ m
  co : Int.gcd r.Num r.Den = 1
theorem RatOk.le {r : Ratio} {m m' : Int} (h : RatOk r m) (hm : m ≤ m') : RatOk r m' := ⟨h.n1, by have := h.n2; omega, h.d1, by have := h.d2; omega, h.co⟩
theorem ratioN_ok {a b m : Int} (ha : 1 ≤ a ∧ a ≤ m) (hb : 1 ≤ b ∧ b ≤ m) : RatOk (ratioN a b) m := by
  obtain ⟨h1, h2, h3, h4⟩ := ratioN_bounds ha hb
  refine ⟨h1, h2, h3, h4, ?_⟩
  have hg : 0 < Int.gcd a b := Int.gcd_pos_of_ne_zero_left _ (by omega)
  exact Int.gcd_ediv_gcd_ediv_gcd hg
theorem mulN_ok {p q : Ratio} {m k : Int} (hp : RatOk p m) (hq : RatOk q k) : RatOk (mulN p q) (m * k) := by
  have m1 := mul_bounds (x := p.Num) (y := q.Num) (a := m) (b := k) ⟨by have := hp.n1; omega, hp.n2⟩ ⟨by have := hq.n1; omega, hq.n2⟩
  have m2 := mul_bounds (x := p.Den) (y := q.Den) (a := m) (b := k) ⟨by have := hp.d1; omega, hp.d2⟩ ⟨by have := hq.d1; omega, hq.d2⟩
  exact ratioN_ok ⟨mul_pos1 hp.n1 hq.n1, m1.2⟩ ⟨mul_pos1 hp.d1 hq.d1, m2.2⟩
theorem Mul_eq {a b : Q} {p q : Ratio} {m : Int} (ha : IsQ a p) (hb : IsQ b q) (hp : RatOk p m) (hq : RatOk q m) (hm : m < 10000 ^ 40) : ∃ r, m_cocketref01_Mul a b = some r ∧ IsQ r (mulN p q) := by
  have p1 := hp.n1
  have p2 := hp.d1
  have q1 := hq.n1
  have q2 := hq.d1
  obtain ⟨u, h1, h2⟩ := Times_eq ha.num hb.num (by have := hp.n2; omega) (by have := hq.n2; omega)
  obtain ⟨v, h3, h4⟩ := Times_eq ha.den hb.den (by have := hp.d2; omega) (by have := hq.d2; omega)
  have hb2 : ∀ {x y : Int}, 1 ≤ x → x ≤ m → 1 ≤ y → y ≤ m → x * y < 10000 ^ 100 := fun {x y} a1 a2 a3 a4 => by
    have := Int.mul_lt_mul' (show x ≤ (10000 : Int) ^ 40 by omega) (show y < (10000 : Int) ^ 40 by omega) (by omega) (pow_pos' 40)
    rw [← Int.pow_add] at this
    have h80 : (10000 : Int) ^ (40 + 40) ≤ 10000 ^ 100 := pow_le_pow (by decide)
    omega
  obtain ⟨r, h5, h6⟩ := lowest_eq h2 h4 (hb2 p1 hp.n2 q1 hq.n2) (hb2 p2 hp.d2 q2 hq.d2) (by have := mul_pos1 p2 q2; omega)
  refine ⟨r, ?_, h6⟩
  rw [m_cocketref01_Mul, h1, h3]
  simp only [Option.bind_some, h5]
theorem Cmp_eq {a b : Q} {p q : Ratio} {m : Int} (ha : IsQ a p) (hb : IsQ b q) (hp : RatOk p m) (hq : RatOk q m) (hm : m < 10000 ^ 40) : m_cocketref01_Cmp a b = some (sgn (p.Num * q.Den - q.Num * p.Den)) := by
  have p1 := hp.n1
  have p2 := hp.d1
  have q1 := hq.n1
  have q2 := hq.d1
  obtain ⟨u, h1, h2⟩ := Times_eq ha.num hb.den (by have := hp.n2; omega) (by have := hq.d2; omega)
  obtain ⟨v, h3, h4⟩ := Times_eq hb.num ha.den (by have := hq.n2; omega) (by have := hp.d2; omega)
  have hb2 : ∀ {x y : Int}, 1 ≤ x → x ≤ m → 1 ≤ y → y ≤ m → x * y < 10000 ^ 100 := fun {x y} a1 a2 a3 a4 => by
    have := Int.mul_lt_mul' (show x ≤ (10000 : Int) ^ 40 by omega) (show y < (10000 : Int) ^ 40 by omega) (by omega) (pow_pos' 40)
    rw [← Int.pow_add] at this
    have h80 : (10000 : Int) ^ (40 + 40) ≤ 10000 ^ 100 := pow_le_pow (by decide)
    omega
  have l1 := h2.len (hb2 p1 hp.n2 q2 hq.d2)
  have l2 := h4.len (hb2 q1 hq.n2 p2 hp.d2)
  rw [m_cocketref01_Cmp, h1, h3]
  simp only [Option.bind_some]
  rw [m_cocketref01_Compare, h2.pos, h4.pos, cmpD_eq h2.can h4.can (by omega) (by omega), h2.val, h4.val]
  rfl
end Go.Pv

set_option linter.unusedSimpArgs false
set_option linter.unusedVariables false
namespace Go.Pv
def toRat (r : Ratio) : Rat := Rat.divInt r.Num r.Den
theorem cast_pos {b : Int} (hb : 1 ≤ b) : (0 : Rat) < (b : Rat) := by
  have := (Rat.intCast_lt_intCast (a := 0) (b := b)).2 (by omega)
  simpa using this
theorem divInt_lt_iff {a b c d : Int} (hb : 1 ≤ b) (hd : 1 ≤ d) : Rat.divInt a b < Rat.divInt c d ↔ a * d < c * b := by
  have pb := cast_pos hb
  have pd := cast_pos hd
  have hb0 : (b : Rat) ≠ 0 := fun h => by rw [h] at pb; exact absurd pb (by decide)
  have hd0 : (d : Rat) ≠ 0 := fun h => by rw [h] at pd; exact absurd pd (by decide)
  have hx : Rat.divInt a b * (b : Rat) = a := by rw [Rat.divInt_eq_div]; exact Rat.div_mul_cancel hb0
  have hy : Rat.divInt c d * (d : Rat) = c := by rw [Rat.divInt_eq_div]; exact Rat.div_mul_cancel hd0
  generalize Rat.divInt a b = x at *
  generalize Rat.divInt c d = y at *
  have pbd := Rat.mul_pos pb pd
  have e1 : ((a * d : Int) : Rat) = x * ((b : Rat) * (d : Rat)) := by rw [Rat.intCast_mul, ← hx, Rat.mul_assoc]
  have e2 : ((c * b : Int) : Rat) = y * ((b : Rat) * (d : Rat)) := by rw [Rat.intCast_mul, ← hy, Rat.mul_assoc, Rat.mul_comm (d : Rat)]
  rw [← Rat.intCast_lt_intCast, e1, e2]
  constructor
  · intro h
    exact Rat.mul_lt_mul_of_pos_right h pbd
  · intro h
    by_cases hc : y ≤ x
    · have := Rat.mul_le_mul_of_nonneg_right hc (Rat.le_of_lt pbd)
      exact absurd h (Rat.not_lt.2 this)
    · exact Rat.not_le.1 hc
theorem toRat_lt {p q : Ratio} (hp : 1 ≤ p.Den) (hq : 1 ≤ q.Den) : toRat p < toRat q ↔ p.Num * q.Den < q.Num * p.Den := divInt_lt_iff hp hq
theorem toRat_pos {p : Ratio} (hn : 1 ≤ p.Num) (hd : 1 ≤ p.Den) : 0 < toRat p := by
  have h := (divInt_lt_iff (a := 0) (b := 1) (c := p.Num) (d := p.Den) (by decide) hd).2 (by omega)
  have e : Rat.divInt 0 1 = 0 := by decide
  rw [e] at h
  exact h
theorem toRat_ratioN {a b : Int} (ha : 1 ≤ a) (hb : 1 ≤ b) : toRat (ratioN a b) = Rat.divInt a b := by
  have hg : 0 < Int.gcd a b := Int.gcd_pos_of_ne_zero_left _ (by omega)
  have h1 : a / (Int.gcd a b : Int) * (Int.gcd a b : Int) = a := Int.ediv_mul_cancel (Int.gcd_dvd_left _ _)
  have h2 : b / (Int.gcd a b : Int) * (Int.gcd a b : Int) = b := Int.ediv_mul_cancel (Int.gcd_dvd_right _ _)
  have := Rat.divInt_mul_right (n := a / (Int.gcd a b : Int)) (d := b / (Int.gcd a b : Int)) (a := (Int.gcd a b : Int)) (by omega)
  rw [h1, h2] at this
  exact this.symm
theorem toRat_mulN {p q : Ratio} (hp : 1 ≤ p.Num) (hp' : 1 ≤ p.Den) (hq : 1 ≤ q.Num) (hq' : 1 ≤ q.Den) : toRat (mulN p q) = toRat p * toRat q := by
  rw [mulN, toRat_ratioN (mul_pos1 hp hq) (mul_pos1 hp' hq'), toRat, toRat, Rat.divInt_mul_divInt]
theorem toRat_inj {p q : Ratio} (hp : 1 ≤ p.Num) (hp' : 1 ≤ p.Den) (hpc : Int.gcd p.Num p.Den = 1) (hq : 1 ≤ q.Num) (hq' : 1 ≤ q.Den) (hqc : Int.gcd q.Num q.Den = 1) (h : toRat p = toRat q) : p = q := by
  have hx : p.Num * q.Den = q.Num * p.Den := (Rat.divInt_eq_divInt_iff (by omega) (by omega)).1 h
  have hx1 := congrArg Int.natAbs hx
  rw [Int.natAbs_mul, Int.natAbs_mul] at hx1
  have c1 : Nat.Coprime p.Den.natAbs p.Num.natAbs := Nat.Coprime.symm hpc
  have c2 : Nat.Coprime q.Den.natAbs q.Num.natAbs := Nat.Coprime.symm hqc
  have d1 : p.Den ∣ q.Den := Int.natAbs_dvd_natAbs.1 (c1.dvd_of_dvd_mul_left (n := q.Den.natAbs) ⟨q.Num.natAbs, by rw [hx1, Nat.mul_comm]⟩)
  have d2 : q.Den ∣ p.Den := Int.natAbs_dvd_natAbs.1 (c2.dvd_of_dvd_mul_left (n := p.Den.natAbs) ⟨p.Num.natAbs, by rw [← hx1, Nat.mul_comm]⟩)
  have e : p.Den = q.Den := Int.dvd_antisymm (by omega) (by omega) d1 d2
  rw [e] at hx
  have e2 : p.Num = q.Num := Int.eq_of_mul_eq_mul_right (by omega) hx
  obtain ⟨n, d⟩ := p
  obtain ⟨n', d'⟩ := q
  simp only at e e2
  rw [e, e2]
theorem RatOk.inj {p q : Ratio} {m k : Int} (hp : RatOk p m) (hq : RatOk q k) (h : toRat p = toRat q) : p = q := toRat_inj hp.n1 hp.d1 hp.co hq.n1 hq.d1 hq.co h
theorem timesN_eq {p q : Ratio} {m k : Int} (hp : RatOk p m) (hq : RatOk q k) : timesN p q = mulN p q := by
  have p1 := hp.n1
  have p2 := hp.d1
  have q1 := hq.n1
  have q2 := hq.d1
  have hg1 : 0 < Int.gcd p.Num q.Den := Int.gcd_pos_of_ne_zero_left _ (by omega)
  have hg2 : 0 < Int.gcd q.Num p.Den := Int.gcd_pos_of_ne_zero_left _ (by omega)
  have ht := timesN_bounds (p := p) (q := q) (a := max p.Num p.Den) (b := max q.Num q.Den) ⟨p1, by omega⟩ ⟨p2, by omega⟩ ⟨q1, by omega⟩ ⟨q2, by omega⟩
  have hm := mulN_ok hp hq
  have a1 : p.Num / (Int.gcd p.Num q.Den : Int) * (Int.gcd p.Num q.Den : Int) = p.Num := Int.ediv_mul_cancel (Int.gcd_dvd_left _ _)
  have a2 : q.Den / (Int.gcd p.Num q.Den : Int) * (Int.gcd p.Num q.Den : Int) = q.Den := Int.ediv_mul_cancel (Int.gcd_dvd_right _ _)
  have a3 : q.Num / (Int.gcd q.Num p.Den : Int) * (Int.gcd q.Num p.Den : Int) = q.Num := Int.ediv_mul_cancel (Int.gcd_dvd_left _ _)
  have a4 : p.Den / (Int.gcd q.Num p.Den : Int) * (Int.gcd q.Num p.Den : Int) = p.Den := Int.ediv_mul_cancel (Int.gcd_dvd_right _ _)
  have c1 : Int.gcd (p.Num / (Int.gcd p.Num q.Den : Int)) (q.Den / (Int.gcd p.Num q.Den : Int)) = 1 := Int.gcd_ediv_gcd_ediv_gcd hg1
  have c2 : Int.gcd (q.Num / (Int.gcd q.Num p.Den : Int)) (p.Den / (Int.gcd q.Num p.Den : Int)) = 1 := Int.gcd_ediv_gcd_ediv_gcd hg2
  have hpc := hp.co
  have hqc := hq.co
  have hval : toRat (timesN p q) = toRat p * toRat q := by
    rw [toRat, toRat, toRat, Rat.divInt_mul_divInt]
    simp only [timesN]
    have hk : ((Int.gcd p.Num q.Den : Int) * (Int.gcd q.Num p.Den : Int)) ≠ 0 := by
      have := Int.mul_pos (show (0 : Int) < (Int.gcd p.Num q.Den : Int) by omega) (show (0 : Int) < (Int.gcd q.Num p.Den : Int) by omega)
      omega
    have := Rat.divInt_mul_right (n := p.Num / (Int.gcd p.Num q.Den : Int) * (q.Num / (Int.gcd q.Num p.Den : Int))) (d := p.Den / (Int.gcd q.Num p.Den : Int) * (q.Den / (Int.gcd p.Num q.Den : Int))) hk
    rw [← this]
    have n1 : p.Num / (Int.gcd p.Num q.Den : Int) * (q.Num / (Int.gcd q.Num p.Den : Int)) * ((Int.gcd p.Num q.Den : Int) * (Int.gcd q.Num p.Den : Int)) = p.Num * q.Num := by
      refine Eq.trans (b := (p.Num / (Int.gcd p.Num q.Den : Int) * (Int.gcd p.Num q.Den : Int)) * (q.Num / (Int.gcd q.Num p.Den : Int) * (Int.gcd q.Num p.Den : Int))) ?_ (by rw [a1, a3])
      simp only [Int.mul_assoc, Int.mul_comm, Int.mul_left_comm]
    have n2 : p.Den / (Int.gcd q.Num p.Den : Int) * (q.Den / (Int.gcd p.Num q.Den : Int)) * ((Int.gcd p.Num q.Den : Int) * (Int.gcd q.Num p.Den : Int)) = p.Den * q.Den := by
      refine Eq.trans (b := (p.Den / (Int.gcd q.Num p.Den : Int) * (Int.gcd q.Num p.Den : Int)) * (q.Den / (Int.gcd p.Num q.Den : Int) * (Int.gcd p.Num q.Den : Int))) ?_ (by rw [a4, a2])
      simp only [Int.mul_assoc, Int.mul_comm, Int.mul_left_comm]
    rw [n1, n2]
  have hco : Int.gcd (timesN p q).Num (timesN p q).Den = 1 := by
    simp only [timesN]
    show Nat.Coprime (Int.natAbs _) (Int.natAbs _)
    rw [Int.natAbs_mul, Int.natAbs_mul]
    have v1 : (p.Num / (Int.gcd p.Num q.Den : Int)).natAbs ∣ p.Num.natAbs := Int.natAbs_dvd_natAbs.2 ⟨_, a1.symm⟩
    have v2 : (q.Den / (Int.gcd p.Num q.Den : Int)).natAbs ∣ q.Den.natAbs := Int.natAbs_dvd_natAbs.2 ⟨_, a2.symm⟩
    have v3 : (q.Num / (Int.gcd q.Num p.Den : Int)).natAbs ∣ q.Num.natAbs := Int.natAbs_dvd_natAbs.2 ⟨_, a3.symm⟩
    have v4 : (p.Den / (Int.gcd q.Num p.Den : Int)).natAbs ∣ p.Den.natAbs := Int.natAbs_dvd_natAbs.2 ⟨_, a4.symm⟩
    have w1 : Nat.Coprime p.Num.natAbs p.Den.natAbs := hpc
    have w2 : Nat.Coprime q.Num.natAbs q.Den.natAbs := hqc
    exact Nat.Coprime.mul_left (Nat.Coprime.mul_right ((w1.coprime_dvd_left v1).coprime_dvd_right v4) c1) (Nat.Coprime.mul_right c2 ((w2.coprime_dvd_left v3).coprime_dvd_right v2))
  have hm1 := hm.n1
  have hm2 := hm.d1
  exact toRat_inj ht.1 ht.2.2.1 hco hm.n1 hm.d1 hm.co (by rw [hval, toRat_mulN p1 p2 q1 q2])
end Go.Pv

set_option linter.unusedSimpArgs false
set_option linter.unusedVariables false
namespace Go.Pv
def aboveS (a b : Ratio) : Bool := decide (b.Num * a.Den < a.Num * b.Den)
theorem above_eq {a b : Ratio} {x y : Int} (h1 : 0 ≤ a.Num ∧ a.Num ≤ x) (h2 : 0 ≤ a.Den ∧ a.Den ≤ x) (h3 : 0 ≤ b.Num ∧ b.Num ≤ y) (h4 : 0 ≤ b.Den ∧ b.Den ≤ y) (h : x * y ≤ 9223372036854775807) : m_rate_above a b = some (aboveS a b) := by
  have m1 := mul_bounds h1 h4
  have m2 := mul_bounds h2 h3
  rw [Int.mul_comm a.Den b.Num] at m2
  rw [m_rate_above, wrap_i64_eq (by omega), wrap_i64_eq (by omega)]
  rfl
structure MarketOk (m : Market) : Prop where
  n1 : 2 ≤ m.n
  n2 : m.n ≤ 6
  len : m.offers.length ≤ 40
  good : ∀ o ∈ m.offers, offerOk m.n o = true
theorem MarketOk.of {n : Int} {l : List Offer} (h : ofCode n l = 0) : MarketOk ⟨n, l⟩ :=
  ⟨(ofCode_zero h).1, (ofCode_zero h).2.1, (ofCode_zero h).2.2.1, (ofCode_zero h).2.2.2⟩
theorem MarketOk.offer {m : Market} (h : MarketOk m) : ∀ o ∈ m.offers, goodOffer m.n o = true := fun o ho => by
  have := h.good o ho
  simp only [offerOk, Bool.and_eq_true] at this
  exact this.1
theorem MarketOk.pre {m : Market} (h : MarketOk m) {frm length : Int} (h1 : 0 ≤ frm ∧ frm < m.n) (h2 : 0 ≤ length ∧ length ≤ m.n) (r : Bool) : walksPre m frm length r = true := by
  have := h.n2
  have h3 := h.len
  simp only [walksPre, Bool.and_eq_true, decide_eq_true_eq, List.all_eq_true]
  exact ⟨⟨h.n2, by omega, h1.1, h1.2, h2.1, by omega⟩, h.offer⟩
theorem MarketOk.facts {m : Market} (h : MarketOk m) (frm length : Int) (r : Bool) (h2 : 0 ≤ length ∧ length ≤ m.n) : ∀ x ∈ walksL m frm length r, (x.list.length : Int) = length ∧ (1 ≤ x.rate.Num ∧ x.rate.Num ≤ 15625000000) ∧ (1 ≤ x.rate.Den ∧ x.rate.Den ≤ 15625000000) := by
  intro x hx
  obtain ⟨a1, a2, a3⟩ := walksL_facts m h.offer frm length r x hx
  have := h.n2
  have hp := pow50_le (a := x.list.length) (b := 6) (by omega)
  have e : (50 : Int) ^ 6 = 15625000000 := by decide
  refine ⟨a1, ⟨a2.1, by omega⟩, a3.1, by omega⟩
theorem MarketOk.facts5 {m : Market} (h : MarketOk m) (frm length : Int) (r : Bool) (h2 : 0 ≤ length ∧ length < m.n) : ∀ x ∈ walksL m frm length r, (x.list.length : Int) = length ∧ (1 ≤ x.rate.Num ∧ x.rate.Num ≤ 312500000) ∧ (1 ≤ x.rate.Den ∧ x.rate.Den ≤ 312500000) := by
  intro x hx
  obtain ⟨a1, a2, a3⟩ := walksL_facts m h.offer frm length r x hx
  have := h.n2
  have hp := pow50_le (a := x.list.length) (b := 5) (by omega)
  have e : (50 : Int) ^ 5 = 312500000 := by decide
  refine ⟨a1, ⟨a2.1, by omega⟩, a3.1, by omega⟩
def gainsW (x : Walk) : Bool := aboveS x.rate ⟨1, 1⟩
def lesser (a c : List Int) : List Int := if c.isEmpty || decide (cmpL a c < 0) then a else c
def roundV (c : List Int) : List Walk → List Int
  | [] => c
  | x :: W => if gainsW x then lesser x.list c else roundV c W
theorem roundV_len {c : List Int} (hc : c.length ≤ 1000) : ∀ {W : List Walk}, (∀ x ∈ W, x.list.length ≤ 1000) → (roundV c W).length ≤ 1000
  | [], _ => hc
  | x :: W, h => by
    unfold roundV
    split
    · unfold lesser; split
      · exact h x (by simp)
      · exact hc
    · exact roundV_len hc fun y hy => h y (List.mem_cons_of_mem _ hy)
theorem rangeM_round (c : List Int) (hc : c.length ≤ 1000) : ∀ (W : List Walk), (∀ x ∈ W, x.list.length ≤ 1000 ∧ (1 ≤ x.rate.Num ∧ x.rate.Num ≤ 15625000000) ∧ (1 ≤ x.rate.Den ∧ x.rate.Den ≤ 15625000000)) →
    ((rangeM m_rate_market_round_r3 c W).bind fun o => match o with | .inl c4 => some c4 | .inr c41 => some c41) = some (roundV c W)
  | [], _ => rfl
  | x :: W, h => by
    obtain ⟨h1, h2, h3⟩ := h x (by simp)
    have ha : m_rate_above x.rate ⟨1, 1⟩ = some (gainsW x) := above_eq (x := 15625000000) (y := 1) ⟨by omega, by omega⟩ ⟨by omega, by omega⟩ (by simp) (by simp) (by omega)
    have ih := rangeM_round c hc W fun y hy => h y (List.mem_cons_of_mem _ hy)
    unfold roundV
    rw [rangeM, m_rate_market_round_r3, ha]
    simp only [Option.bind_some]
    rcases Bool.eq_false_or_eq_true (gainsW x) with hg | hg
    · rw [hg, Compare_eq _ _ (by omega) (by omega)]
      simp only [cond_true, if_true, Option.bind_some, lesser]
      rcases Bool.eq_false_or_eq_true c.isEmpty with he | he
      · simp [he]
      · by_cases hl : cmpL x.list c < 0
        · simp [he, hl]
        · simp [he, hl]
    · rw [hg]
      simp only [cond_false, Option.bind_some, Bool.false_eq_true, if_false]
      exact ih
def roundLen (m : Market) (length : Int) : List Int := foldUp (fun v c => roundV c (walksL m v length true)) m.n.toNat 0 []
theorem round_l2 {m : Market} (h : MarketOk m) {length : Int} (hl : 0 ≤ length ∧ length ≤ m.n) : iter (m_rate_market_round_l2 m length) (0, []) = some (roundLen m length) ∧ (roundLen m length).length ≤ 1000 := by
  have hn2 := h.n2
  have key := iter_fold (f := m_rate_market_round_l2 m length) (n := m.n) (e := id) (i := 0) (s := [])
    (g := fun v c => guardO (walksPre m v length true = true) <| (rangeM (m_rate_market_round_r3) c (walksL m v length true)).bind fun o => match o with | .inl c4 => some c4 | .inr c41 => some c41)
    (h := fun v c => roundV c (walksL m v length true)) (fun _ c => c.length ≤ 1000) (by omega) (fun i s => by rw [m_rate_market_round_l2]; rfl) (by omega) ?_ (by simp)
  · have e : m.n - 0 = m.n := by omega
    rw [e] at key
    exact key
  · intro j s h1 h2 h3
    have hf := h.facts j length true hl
    have hle : ∀ x ∈ walksL m j length true, x.list.length ≤ 1000 := fun x hx => by
      have := (hf x hx).1
      omega
    rw [guardO_pos (h.pre ⟨h1, h2⟩ hl true), rangeM_round s h3 _ fun x hx => ⟨hle x hx, (hf x hx).2⟩]
    exact ⟨rfl, roundV_len h3 hle⟩
def roundFrom (m : Market) : Nat → Int → List Int
  | 0, _ => []
  | k + 1, length => if (roundLen m length).isEmpty then roundFrom m k (length + 1) else roundLen m length
def roundS (m : Market) : List Int := roundFrom m (m.n - 1).toNat 2
theorem round_l1 {m : Market} (h : MarketOk m) : ∀ (k : Nat) (length : Int), k = (m.n + 1 - length).toNat → 0 ≤ length →
    ((iter (m_rate_market_round_l1 m) length).bind fun o => match o with | .inl _ => some [] | .inr y => some y) = some (roundFrom m k length)
  | 0, length, hk, h0 => by
    have d : decide (length ≤ m.n) = false := by simp; omega
    rw [iter_eq, m_rate_market_round_l1, d]; rfl
  | k + 1, length, hk, h0 => by
    have hn2 := h.n2
    have d : decide (length ≤ m.n) = true := by simp; omega
    have ih := round_l1 h k (length + 1) (by omega) (by omega)
    rw [iter_eq, m_rate_market_round_l1, d, (round_l2 h ⟨h0, by omega⟩).1, roundFrom]
    simp only [cond_true, Option.bind_some]
    rcases Bool.eq_false_or_eq_true (roundLen m length).isEmpty with he | he
    · simp only [he, Bool.not_true, cond_false, Option.bind_some, if_true]
      rw [wrap_i64_eq (by omega)]
      exact ih
    · simp only [he, Bool.not_false, cond_true, Option.bind_some, Bool.false_eq_true, if_false]
theorem round_eq {m : Market} (h : MarketOk m) : m_rate_market_round m = some (roundS m) := by
  have hn2 := h.n2
  have := round_l1 h _ 2 rfl (by omega)
  rw [m_rate_market_round]
  have e : (m.n + 1 - 2).toNat = (m.n - 1).toNat := by omega
  rw [e] at this
  obtain ⟨x, h1, h2⟩ := bind_some this
  rw [h1]
  rcases x with x | x <;> exact h2
def bestStep (to : Int) (s : Walk × Bool) (x : Walk) : Walk × Bool := if (decide (x.to = to) && (!s.2 || aboveS x.rate s.1.rate)) = true then (x, true) else s
def bestS (m : Market) (frm to : Int) : Walk × Bool :=
  if frm = to then (⟨[], ⟨1, 1⟩, 0⟩, true) else foldUp (fun length s => (walksL m frm length false).foldl (bestStep to) s) (m.n - 1).toNat 1 (⟨[], ⟨0, 0⟩, 0⟩, false)
def RateOk (r : Ratio) : Prop := (0 ≤ r.Num ∧ r.Num ≤ 312500000) ∧ 0 ≤ r.Den ∧ r.Den ≤ 312500000
theorem RateOk.mk1 {a b : Int} (h : (0 ≤ a ∧ a ≤ 312500000) ∧ 0 ≤ b ∧ b ≤ 312500000) : RateOk ⟨a, b⟩ := h
theorem above_ok {a b : Ratio} (h1 : RateOk a) (h2 : RateOk b) : m_rate_above a b = some (aboveS a b) :=
  above_eq (x := 312500000) (y := 312500000) h1.1 h1.2 h2.1 h2.2 (by omega)
theorem rangeM_best (to : Int) : ∀ (W : List Walk) (s : Walk × Bool), RateOk s.1.rate → (∀ x ∈ W, RateOk x.rate) →
    rangeM (m_rate_market_best_r2 to) s W = some (.inl (W.foldl (bestStep to) s)) ∧ RateOk (W.foldl (bestStep to) s).1.rate
  | [], s, hs, _ => ⟨rfl, hs⟩
  | x :: W, s, hs, h => by
    have hx := h x (by simp)
    have e : m_rate_market_best_r2 to s x = some (.inl (bestStep to s x)) := by
      obtain ⟨s1, s2⟩ := s
      rw [m_rate_market_best_r2, above_ok hx hs]
      simp only [bestStep, Option.bind_some]
      rcases Bool.eq_false_or_eq_true (decide (x.to = to)) with c1 | c1
      · rcases Bool.eq_false_or_eq_true s2 with c2 | c2
        · rcases Bool.eq_false_or_eq_true (aboveS x.rate s1.rate) with c3 | c3
          · simp [c1, c2, c3]
          · simp [c1, c2, c3]
        · simp [c1, c2]
      · simp [c1]
    have hr : RateOk (bestStep to s x).1.rate := by
      unfold bestStep; split
      · exact hx
      · exact hs
    rw [rangeM, e]
    exact rangeM_best to W _ hr fun y hy => h y (List.mem_cons_of_mem _ hy)
theorem best_eq {m : Market} (h : MarketOk m) {frm : Int} (hf : 0 ≤ frm ∧ frm < m.n) (to : Int) : m_rate_market_best m frm to = some (bestS m frm to) ∧ RateOk (bestS m frm to).1.rate := by
  have hn2 := h.n2
  rw [m_rate_market_best, bestS]
  by_cases he : frm = to
  · have d : decide (frm = to) = true := by simpa using he
    rw [d, if_pos he]
    exact ⟨rfl, RateOk.mk1 (by decide)⟩
  have d : decide (frm = to) = false := by simpa using he
  rw [d, if_neg he]
  have key := iter_fold (f := fun x : Int × (Walk × Bool) => m_rate_market_best_l1 m frm to x) (n := m.n) (e := id) (i := 1) (s := (⟨[], ⟨0, 0⟩, 0⟩, false))
    (g := fun length s => (guardO (walksPre m frm length false = true) <| (rangeM (m_rate_market_best_r2 to) s (walksL m frm length false)).bind fun o => match o with | .inl (c7, c8) => some (c7, c8) | .inr (c71, c81) => none))
    (h := fun length s => (walksL m frm length false).foldl (bestStep to) s) (fun _ s => RateOk s.1.rate) (by omega) ?_ (by omega) ?_ (RateOk.mk1 (by decide))
  · simp only [cond_false, key.1, Option.bind_some]
    exact ⟨rfl, key.2⟩
  · rintro i ⟨s1, s2⟩
    rw [m_rate_market_best_l1]
    rfl
  · intro j s h1 h2 h3
    have hfa := h.facts5 frm j false ⟨by omega, h2⟩
    obtain ⟨b1, b2⟩ := rangeM_best to (walksL m frm j false) s h3 fun x hx => by
      have := hfa x hx
      exact ⟨⟨by omega, by omega⟩, by omega, by omega⟩
    rw [guardO_pos (h.pre hf ⟨by omega, by omega⟩ false), b1]
    exact ⟨rfl, b2⟩
def priceStep (m : Market) (v v2 : Int) (c : Ratio) : Ratio := if ((bestS m v v2).2 && aboveS (bestS m v v2).1.rate c) = true then (bestS m v v2).1.rate else c
def priceS (m : Market) (v : Int) : Ratio := foldUp (priceStep m v) m.n.toNat 0 ⟨1, 1⟩
def pricesS (m : Market) : List Ratio := foldUp (fun v L => L ++ [priceS m v]) m.n.toNat 0 []
theorem Prices_l2 {n : Int} {l : List Offer} {c : Int} (h : MarketOk ⟨n, l⟩) {v : Int} (hv : 0 ≤ v ∧ v < n) : iter (m_rate_Prices_l2 n (⟨n, l⟩, c) v) (0, ⟨1, 1⟩) = some (priceS ⟨n, l⟩ v) := by
  have hn2 := h.n2
  dsimp only at hn2
  have key := iter_fold (f := m_rate_Prices_l2 n (⟨n, l⟩, c) v) (n := n) (e := id) (i := 0) (s := (⟨1, 1⟩ : Ratio))
    (g := fun v2 c2 => ((m_rate_market_best ⟨n, l⟩ v v2).bind fun r3 => ((cond r3.2 ((m_rate_above r3.1.rate c2).bind fun r4 => some r4) (some false)) : Option Bool).bind fun b1 => cond b1 (some r3.1.rate) (some c2)))
    (h := priceStep ⟨n, l⟩ v) (fun _ s => RateOk s) (by omega) (fun i s => by rw [m_rate_Prices_l2]; rfl) (by omega) ?_ (RateOk.mk1 (by decide))
  · have e : n - 0 = n := by omega
    rw [e] at key
    exact key.1
  · intro j s h1 h2 h3
    obtain ⟨b1, b2⟩ := best_eq h (frm := v) hv j
    rw [b1]
    simp only [Option.bind_some, above_ok b2 h3, priceStep]
    rcases Bool.eq_false_or_eq_true (bestS ⟨n, l⟩ v j).2 with c1 | c1
    · rcases Bool.eq_false_or_eq_true (aboveS (bestS ⟨n, l⟩ v j).1.rate s) with c2 | c2
      · simp [c1, c2, b2]
      · simp [c1, c2, h3]
    · simp [c1, h3]
theorem Prices_l1 {n : Int} {l : List Offer} {c : Int} (h : MarketOk ⟨n, l⟩) : iter (m_rate_Prices_l1 n (⟨n, l⟩, c)) (0, []) = some (pricesS ⟨n, l⟩) := by
  have hn2 := h.n2
  dsimp only at hn2
  have key := iter_fold (f := m_rate_Prices_l1 n (⟨n, l⟩, c)) (n := n) (e := id) (i := 0) (s := ([] : List Ratio))
    (g := fun v1 L2 => ((iter (m_rate_Prices_l2 n (⟨n, l⟩, c) v1) (0, (⟨1, 1⟩ : Ratio))).bind fun x_37 => some x_37 : Option Ratio).bind fun c1 => guardO (L2.length + [c1].length ≤ 4294967296) <| some (L2 ++ [c1]))
    (h := fun v L => L ++ [priceS ⟨n, l⟩ v]) (fun j L => (L.length : Int) = j) (by omega) (fun i s => by rw [m_rate_Prices_l1]; rfl) (by omega) ?_ (by simp)
  · have e : n - 0 = n := by omega
    rw [e] at key
    exact key.1
  · intro j s h1 h2 h3
    rw [Prices_l2 h ⟨h1, h2⟩]
    simp only [Option.bind_some]
    rw [guardO_pos (by simp; omega)]
    exact ⟨rfl, by simp; omega⟩
theorem Prices_eq (n : Int) (l : List Offer) : m_rate_Prices n l = some (if ofCode n l = 0 then (if (roundS ⟨n, l⟩).isEmpty then (pricesS ⟨n, l⟩, 0) else ([], 10)) else ([], ofCode n l)) := by
  rw [m_rate_Prices, of_eq]
  by_cases h0 : ofCode n l = 0
  · have hm := MarketOk.of h0
    rw [if_pos h0, if_pos h0]
    simp only [Option.bind_some, not_true_eq_false, decide_false, cond_false, round_eq hm, Prices_l1 hm]
    rcases Bool.eq_false_or_eq_true (roundS ⟨n, l⟩).isEmpty with he | he
    · simp [he]
    · simp [he]
  · have d : decide (¬ofCode n l = 0) = true := by simpa using h0
    rw [if_neg h0, if_neg h0]
    simp only [Option.bind_some, d, cond_true]
theorem Round_eq (n : Int) (l : List Offer) : m_rate_Round n l = some (if ofCode n l = 0 then (if (roundS ⟨n, l⟩).isEmpty then ([], 10) else (roundS ⟨n, l⟩, 0)) else ([], ofCode n l)) := by
  rw [m_rate_Round, of_eq]
  by_cases h0 : ofCode n l = 0
  · have hm := MarketOk.of h0
    rw [if_pos h0, if_pos h0]
    simp only [Option.bind_some, not_true_eq_false, decide_false, cond_false, round_eq hm]
    rcases Bool.eq_false_or_eq_true (roundS ⟨n, l⟩).isEmpty with he | he
    · simp [he]
    · simp [he]
  · have d : decide (¬ofCode n l = 0) = true := by simpa using h0
    rw [if_neg h0, if_neg h0]
    simp only [Option.bind_some, d, cond_true]
theorem Best_eq (n : Int) (l : List Offer) (frm to : Int) : m_rate_Best n l frm to = some (if ofCode n l = 0 then (if 0 ≤ frm ∧ frm < n ∧ 0 ≤ to ∧ to < n then (if (roundS ⟨n, l⟩).isEmpty then (if (bestS ⟨n, l⟩ frm to).2 then ((bestS ⟨n, l⟩ frm to).1.rate, (bestS ⟨n, l⟩ frm to).1.list, 0) else (⟨0, 0⟩, [], 10)) else (⟨0, 0⟩, [], 11)) else (⟨0, 0⟩, [], 2)) else (⟨0, 0⟩, [], ofCode n l)) := by
  rw [m_rate_Best, of_eq]
  by_cases h0 : ofCode n l = 0
  · have hm := MarketOk.of h0
    rw [if_pos h0, if_pos h0]
    simp only [Option.bind_some, not_true_eq_false, decide_false, cond_false, m_rate_market_has]
    by_cases hc : 0 ≤ frm ∧ frm < n ∧ 0 ≤ to ∧ to < n
    · have d1 : decide (0 ≤ frm) = true := by simp; omega
      have d2 : decide (frm < n) = true := by simp; omega
      have d3 : decide (0 ≤ to) = true := by simp; omega
      have d4 : decide (to < n) = true := by simp; omega
      rw [if_pos hc]
      simp only [d1, d2, d3, d4, Bool.and_true, Bool.not_true, cond_false, Option.bind_some, round_eq hm, (best_eq hm (frm := frm) ⟨hc.1, hc.2.1⟩ to).1]
      rcases Bool.eq_false_or_eq_true (roundS ⟨n, l⟩).isEmpty with he | he
      · simp only [he, Bool.not_true, cond_false, Option.bind_some, if_true]
        rcases Bool.eq_false_or_eq_true (bestS ⟨n, l⟩ frm to).2 with hb | hb
        · simp [hb]
        · simp [hb]
      · simp [he]
    · rw [if_neg hc]
      rcases Bool.eq_false_or_eq_true (decide (0 ≤ frm) && decide (frm < n)) with b1 | b1
      · have b2 : (decide (0 ≤ to) && decide (to < n)) = false := by
          simp only [Bool.and_eq_true, Bool.and_eq_false_iff, decide_eq_true_eq, decide_eq_false_iff_not] at *
          omega
        simp only [b1, b2, Bool.not_true, Bool.not_false, cond_true, cond_false, Option.bind_some]
      · simp only [b1, Bool.not_false, cond_true, Option.bind_some]
  · have d : decide (¬ofCode n l = 0) = true := by simpa using h0
    rw [if_neg h0, if_neg h0]
    simp only [Option.bind_some, d, cond_true]
theorem alive_true : m_cocketlaw01_alive = some true := by
  have e1 : m_rate_Prices 3 [⟨0, 1, 2, 1⟩, ⟨1, 2, 3, 2⟩, ⟨2, 0, 1, 3⟩] = some ([⟨3, 1⟩, ⟨3, 2⟩, ⟨1, 1⟩], 0) := by
    rw [Prices_eq]; decide +kernel
  have e2 : m_rate_Best 3 [⟨0, 1, 2, 1⟩, ⟨1, 2, 3, 2⟩, ⟨2, 0, 1, 3⟩] 0 2 = some (⟨3, 1⟩, [0, 1], 0) := by
    rw [Best_eq]; decide +kernel
  have e3 : m_rate_Round 3 [⟨0, 1, 2, 1⟩, ⟨1, 2, 3, 2⟩, ⟨2, 0, 1, 2⟩] = some ([0, 1, 2], 0) := by
    rw [Round_eq]; decide +kernel
  rw [m_cocketlaw01_alive, m_cocketlaw01_ring]
  simp only [Option.bind_some, e1, e2]
  have e4 : idx ([⟨0, 1, 2, 1⟩, ⟨1, 2, 3, 2⟩, ⟨2, 0, 1, 3⟩] : List Offer) 2 = some ⟨2, 0, 1, 3⟩ := rfl
  rw [e4]
  simp only [Option.bind_some, List.set]
  rw [e3]
  simp only [Option.bind_some]
  have e5 : idx ([⟨3, 1⟩, ⟨3, 2⟩, ⟨1, 1⟩] : List Ratio) 1 = some ⟨3, 2⟩ := rfl
  rw [e5, same_eq _ _ (by decide)]
  rfl
end Go.Pv

set_option linter.unusedSimpArgs false
set_option linter.unusedVariables false
namespace Go.Pv
def rateO (o : Offer) : Ratio := ratioN o.Num o.Den
theorem rateO_ok {n : Int} {o : Offer} (h : offerOk n o = true) : RatOk (rateO o) 50 := by
  simp only [offerOk, goodOffer, Bool.and_eq_true, decide_eq_true_eq] at h
  exact ratioN_ok ⟨by omega, by omega⟩ ⟨by omega, by omega⟩
theorem rate_eq {n : Int} {o : Offer} (h : offerOk n o = true) : ∃ q, m_cocketref01_rate o = some q ∧ IsQ q (rateO o) := by
  simp only [offerOk, goodOffer, Bool.and_eq_true, decide_eq_true_eq] at h
  obtain ⟨q, h1, h2⟩ := Frac_eq (n := o.Num) (d := o.Den) ⟨by omega, by omega⟩ ⟨by omega, by omega⟩
  exact ⟨q, by rw [m_cocketref01_rate, h1]; rfl, h2⟩
def pick (c : Option Ratio) (q : Ratio) : Option Ratio :=
  match c with
  | none => some q
  | some r => if toRat r < toRat q then some q else some r
def stepO (prev : Int → Option Ratio) (v : Int) (c : Option Ratio) (o : Offer) : Option Ratio :=
  if o.From = v then (match prev o.To with
    | none => c
    | some r => pick c (mulN (rateO o) r)) else c
def bestK (l : List Offer) (to : Int) : Nat → Int → Option Ratio
  | 0, v => if v = to then some ⟨1, 1⟩ else none
  | k + 1, v => l.foldl (stepO (bestK l to k) v) none
def IsR (e : Reach) : Option Ratio → Prop
  | none => e.Is = false
  | some r => e.Is = true ∧ IsQ e.Rate r
def RL (n : Int) (L : List Reach) (g : Int → Option Ratio) : Prop := (L.length : Int) = n ∧ ∀ v : Int, 0 ≤ v → v < n → ∃ e, idx L v = some e ∧ IsR e (g v)
theorem idx_set {α : Type} {L : List α} {i j : Int} {x : α} (hi : 0 ≤ i ∧ i < L.length) (hj : 0 ≤ j) : idx (L.set i.toNat x) j = if j = i then some x else idx L j := by
  rw [idx_pos hj, idx_pos hj]
  by_cases h : j = i
  · subst h
    rw [if_pos rfl, List.getElem?_set_self (by omega)]
  · rw [if_neg h, List.getElem?_set_ne (by omega)]
theorem stepO_ok {n : Int} {prev : Int → Option Ratio} {m : Int} (hprev : ∀ v r, prev v = some r → RatOk r m) (hm : 1 ≤ m) {v : Int} {c : Option Ratio} {o : Offer} (ho : offerOk n o = true) (hc : ∀ r, c = some r → RatOk r (50 * m)) :
    ∀ r, stepO prev v c o = some r → RatOk r (50 * m) := by
  intro r hr
  unfold stepO at hr
  split at hr
  · cases hp : prev o.To with
    | none => rw [hp] at hr; exact hc r hr
    | some p =>
      rw [hp] at hr
      have hq := mulN_ok (rateO_ok ho) (hprev _ _ hp)
      simp only [pick] at hr
      split at hr
      · cases hr; exact hq
      · rename_i c' 
        split at hr
        · cases hr; exact hq
        · cases hr; exact hc _ rfl
  · exact hc r hr
theorem foldO_ok {n : Int} {prev : Int → Option Ratio} {m : Int} (hprev : ∀ v r, prev v = some r → RatOk r m) (hm : 1 ≤ m) {v : Int} : ∀ (l : List Offer) (c : Option Ratio), (∀ o ∈ l, offerOk n o = true) → (∀ r, c = some r → RatOk r (50 * m)) →
    ∀ r, l.foldl (stepO prev v) c = some r → RatOk r (50 * m)
  | [], c, _, hc => hc
  | o :: l, c, ho, hc => foldO_ok hprev hm l _ (fun x hx => ho x (List.mem_cons_of_mem _ hx)) (stepO_ok hprev hm (ho o (by simp)) hc)
theorem bestK_ok {n : Int} {l : List Offer} (ho : ∀ o ∈ l, offerOk n o = true) (to : Int) : ∀ (k : Nat) (v : Int) (r : Ratio), bestK l to k v = some r → RatOk r (50 ^ k)
  | 0, v, r, h => by
    unfold bestK at h
    split at h
    · cases h; exact ⟨by decide, by decide, by decide, by decide, by decide⟩
    · cases h
  | k + 1, v, r, h => by
    have h1 : (1 : Int) ≤ 50 ^ k := by have : (0 : Int) < 50 ^ k := Int.pow_pos (by decide)
                                       omega
    have := foldO_ok (n := n) (prev := bestK l to k) (m := 50 ^ k) (bestK_ok ho to k) h1 l none ho (fun r h => by cases h) r h
    rw [Int.pow_succ, Int.mul_comm]; exact this
theorem better_eq {e : Reach} {c : Option Ratio} {q : Q} {r : Ratio} {m : Int} (he : IsR e c) (hq : IsQ q r) (hc : ∀ x, c = some x → RatOk x m) (hr : RatOk r m) (hm : m < 10000 ^ 40) :
    m_cocketref01_better e q = some (match c with | none => true | some x => decide (toRat x < toRat r)) := by
  rw [m_cocketref01_better]
  cases c with
  | none =>
    have : e.Is = false := he
    rw [this]; rfl
  | some x =>
    obtain ⟨h1, h2⟩ : e.Is = true ∧ IsQ e.Rate x := he
    have hx := hc x rfl
    rw [h1, Cmp_eq hq h2 hr hx hm]
    simp only [Bool.not_true, cond_false, Option.bind_some]
    congr 1
    have := toRat_lt hx.d1 hr.d1
    by_cases h : toRat x < toRat r
    · rw [decide_eq_true h]
      have := this.1 h
      exact decide_eq_true ((sgn_pos _).2 (by omega))
    · rw [decide_eq_false h]
      exact decide_eq_false fun h' => h (this.2 (by have := (sgn_pos _).1 h'; omega))
theorem reaches_l2 {n : Int} {l : List Offer} (hm : MarketOk ⟨n, l⟩) {L2 : List (List Reach)} {k : Nat} {R : List Reach} {prev : Int → Option Ratio} {m : Int} (hk : 1 ≤ k) (hk2 : k ≤ 1000) (hR : idx L2 ((k : Int) - 1) = some R) (hRL : RL n R prev)
    (hprev : ∀ v r, prev v = some r → RatOk r m) (hm1 : 1 ≤ m) (hm2 : 50 * m < 10000 ^ 40) : ∀ (j i : Nat) (L5 : List Reach), j = l.length - i → i ≤ l.length → RL n L5 (fun v => (l.take i).foldl (stepO prev v) none) →
    ∃ L', iter (m_cocketref01_reaches_l2 l (k : Int) L2) ((i : Int), L5) = some L' ∧ RL n L' (fun v => l.foldl (stepO prev v) none)
  | 0, i, L5, hj, hi, h => by
    have e : i = l.length := by omega
    subst e
    refine ⟨L5, iter_done ?_, by rw [List.take_length] at h; exact h⟩
    rw [m_cocketref01_reaches_l2, decide_eq_false (by omega)]; rfl
  | j + 1, i, L5, hj, hi, h => by
    have hlen := hm.len
    have hn2 := hm.n2
    dsimp only at hlen hn2
    have hil : i < l.length := by omega
    obtain ⟨o, e1, e2, e3, e4⟩ := idx_lt (l := l) (i := (i : Int)) (by omega) (by omega)
    have hok := hm.good o e4
    have hok2 := hok
    simp only [offerOk, goodOffer, Bool.and_eq_true, decide_eq_true_eq] at hok2
    obtain ⟨e, f1, f2⟩ := hRL.2 o.To (by omega) (by omega)
    have ewk : IntKind.i64.wrap ((k : Int) - 1) = (k : Int) - 1 := wrap_i64_eq (by omega)
    have etake : l.take (i + 1) = l.take i ++ [o] := by
      rw [List.take_add_one]
      have : l[i]? = some o := by simpa using e2
      rw [this]; rfl
    have hfold : ∀ v, (l.take (i + 1)).foldl (stepO prev v) none = stepO prev v ((l.take i).foldl (stepO prev v) none) o := fun v => by rw [etake, List.foldl_append]; rfl
    have goOn : ∀ L6 : List Reach, RL n L6 (fun v => (l.take (i + 1)).foldl (stepO prev v) none) → m_cocketref01_reaches_l2 l (k : Int) L2 ((i : Int), L5) = some (.inl (((i + 1 : Nat) : Int), L6)) →
        ∃ L', iter (m_cocketref01_reaches_l2 l (k : Int) L2) ((i : Int), L5) = some L' ∧ RL n L' (fun v => l.foldl (stepO prev v) none) := fun L6 h6 hst => by
      obtain ⟨L', g1, g2⟩ := reaches_l2 hm hk hk2 hR hRL hprev hm1 hm2 j (i + 1) L6 (by omega) (by omega) h6
      exact ⟨L', iter_step hst g1, g2⟩
    have hwi : IntKind.i64.wrap ((i : Int) + 1) = ((i + 1 : Nat) : Int) := by rw [wrap_i64_eq (by omega)]; omega
    cases hp : prev o.To with
    | none =>
      rw [hp] at f2
      have hIs : e.Is = false := f2
      refine goOn L5 ⟨h.1, fun v h0 h1 => ?_⟩ ?_
      · obtain ⟨x, x1, x2⟩ := h.2 v h0 h1
        refine ⟨x, x1, ?_⟩
        dsimp only at x2 ⊢
        rw [hfold v, stepO, hp]
        split <;> exact x2
      · rw [m_cocketref01_reaches_l2, decide_eq_true (by omega), ewk]
        simp only [cond_true, hR, e1, f1, hIs, cond_false, Option.bind_some, hwi]
    | some r =>
      rw [hp] at f2
      obtain ⟨hIs, hQ⟩ : e.Is = true ∧ IsQ e.Rate r := f2
      have hr := hprev _ _ hp
      obtain ⟨qo, q1, q2⟩ := rate_eq hok
      obtain ⟨qm, m1, m2⟩ := Mul_eq q2 hQ ((rateO_ok hok).le (m' := 50 * m) (by omega)) (hr.le (by omega)) hm2
      have hmo := mulN_ok (rateO_ok hok) hr
      obtain ⟨c, c1, c2⟩ := h.2 o.From (by omega) (by omega)
      have hco : ∀ x, (l.take i).foldl (stepO prev o.From) none = some x → RatOk x (50 * m) := foldO_ok hprev hm1 _ none (fun x hx => hm.good x (List.mem_of_mem_take hx)) (fun x hx => by cases hx)
      have hb := better_eq c2 m2 hco hmo hm2
      dsimp only at c2 hb
      have hstep : ∀ L6, (cond (match (l.take i).foldl (stepO prev o.From) none with | none => true | some x => decide (toRat x < toRat (mulN (rateO o) r))) (some (L5.set o.From.toNat ⟨true, qm⟩)) (some L5) : Option (List Reach)) = some L6 →
          m_cocketref01_reaches_l2 l (k : Int) L2 ((i : Int), L5) = some (.inl (((i + 1 : Nat) : Int), L6)) := fun L6 hL6 => by
        rw [m_cocketref01_reaches_l2, decide_eq_true (by omega), ewk]
        simp only [cond_true, hR, e1, f1, hIs, Option.bind_some, q1, m1, c1, hb, hwi]
        rw [hL6]; rfl
      have hnew : ∀ b : Bool, (match (l.take i).foldl (stepO prev o.From) none with | none => true | some x => decide (toRat x < toRat (mulN (rateO o) r))) = b → pick ((l.take i).foldl (stepO prev o.From) none) (mulN (rateO o) r) = if b = true then some (mulN (rateO o) r) else (l.take i).foldl (stepO prev o.From) none := fun b hb => by
        cases hc : (l.take i).foldl (stepO prev o.From) none with
        | none => rw [hc] at hb; subst hb; rfl
        | some x =>
          rw [hc] at hb; subst hb
          simp only [pick, decide_eq_true_eq]
      rcases Bool.eq_false_or_eq_true (match (l.take i).foldl (stepO prev o.From) none with | none => true | some x => decide (toRat x < toRat (mulN (rateO o) r))) with hbb | hbb
      · refine goOn (L5.set o.From.toNat ⟨true, qm⟩) ⟨by rw [List.length_set]; exact h.1, fun v h0 h1 => ?_⟩ (hstep _ (by rw [hbb]; rfl))
        have hi := idx_set (L := L5) (i := o.From) (j := v) (x := (⟨true, qm⟩ : Reach)) ⟨by omega, by rw [h.1]; omega⟩ h0
        rw [hi]
        dsimp only
        rw [hfold v, stepO]
        by_cases hv : v = o.From
        · subst hv
          rw [if_pos rfl, if_pos rfl, hp]
          refine ⟨_, rfl, ?_⟩
          dsimp only
          rw [hnew true hbb, if_pos rfl]
          exact ⟨rfl, m2⟩
        · rw [if_neg hv, if_neg (fun h => hv h.symm)]
          exact h.2 v h0 h1
      · refine goOn L5 ⟨h.1, fun v h0 h1 => ?_⟩ (hstep _ (by rw [hbb]; rfl))
        obtain ⟨x, x1, x2⟩ := h.2 v h0 h1
        refine ⟨x, x1, ?_⟩
        dsimp only at x2 ⊢
        rw [hfold v, stepO, hp]
        split
        · rename_i hv
          subst hv
          dsimp only
          rw [hnew false hbb]
          exact x2
        · exact x2
end Go.Pv

set_option linter.unusedSimpArgs false
set_option linter.unusedVariables false
namespace Go.Pv
theorem zero_RL {n : Int} (h0 : 0 ≤ n) (l : List Offer) (prev : Int → Option Ratio) : RL n (List.replicate n.toNat (⟨false, ⟨⟨false, []⟩, ⟨false, []⟩⟩⟩ : Reach)) (fun v => (l.take 0).foldl (stepO prev v) none) := by
  refine ⟨by simp; omega, fun v h1 h2 => ⟨⟨false, ⟨⟨false, []⟩, ⟨false, []⟩⟩⟩, ?_, rfl⟩⟩
  rw [idx_pos h1, List.getElem?_replicate, if_pos (by omega)]
theorem fifty_small {k : Nat} (hk : k ≤ 12) : (50 : Int) * 50 ^ k < 10000 ^ 40 := by
  have h1 := pow50_le hk
  have h2 : (50 : Int) ^ 12 = 244140625000000000000 := by decide
  have h3 : (10000 : Int) ^ 6 ≤ 10000 ^ 40 := pow_le_pow (by decide)
  have h4 : (10000 : Int) ^ 6 = 1000000000000000000000000 := by decide
  omega
theorem idx_snoc_lt {α : Type} {L : List α} {x : α} {j : Nat} (h : j < L.length) : idx (L ++ [x]) (j : Int) = idx L (j : Int) := by
  rw [idx_nat, idx_nat, List.getElem?_append_left h]
theorem idx_snoc_eq {α : Type} {L : List α} {x : α} : idx (L ++ [x]) ((L.length : Nat) : Int) = some x := by
  rw [idx_nat]; simp
theorem reaches_l1 {n : Int} {l : List Offer} (hm : MarketOk ⟨n, l⟩) {to : Int} {most : Nat} (hmost : most ≤ 6) : ∀ (j k : Nat) (L2 : List (List Reach)), j = most + 1 - k → 1 ≤ k → k ≤ most + 1 → L2.length = k → (∀ i : Nat, i < k → ∃ R, idx L2 (i : Int) = some R ∧ RL n R (bestK l to i)) →
    ∃ L', iter (m_cocketref01_reaches_l1 n l (most : Int)) ((k : Int), L2) = some L' ∧ L'.length = most + 1 ∧ ∀ i : Nat, i < most + 1 → ∃ R, idx L' (i : Int) = some R ∧ RL n R (bestK l to i)
  | 0, k, L2, hj, hk, hk2, hl, h => by
    have e : k = most + 1 := by omega
    subst e
    refine ⟨L2, iter_done ?_, hl, h⟩
    rw [m_cocketref01_reaches_l1, decide_eq_false (by omega)]; rfl
  | j + 1, k, L2, hj, hk, hk2, hl, h => by
    have hn1 := hm.n1
    have hn2 := hm.n2
    dsimp only at hn1 hn2
    obtain ⟨R, hR1, hR2⟩ := h (k - 1) (by omega)
    have e0 : (((k - 1 : Nat) : Int)) = (k : Int) - 1 := by omega
    rw [e0] at hR1
    have h1 : (1 : Int) ≤ 50 ^ (k - 1) := by
      have : (0 : Int) < 50 ^ (k - 1) := Int.pow_pos (by decide)
      omega
    obtain ⟨L4, g1, g2⟩ := reaches_l2 hm hk (by omega) hR1 hR2 (bestK_ok hm.good to (k - 1)) h1 (fifty_small (by omega)) l.length 0 _ (by omega) (by omega) (zero_RL (by omega) l _)
    have g2' : RL n L4 (bestK l to k) := by
      obtain ⟨k', rfl⟩ : ∃ k', k = k' + 1 := ⟨k - 1, by omega⟩
      exact g2
    obtain ⟨L', f1, f2, f3⟩ := reaches_l1 hm hmost j (k + 1) (L2 ++ [L4]) (by omega) (by omega) (by omega) (by simp; omega) (fun i hi => by
      rcases Nat.lt_or_ge i k with hik | hik
      · rw [idx_snoc_lt (by omega)]; exact h i hik
      · have : i = L2.length := by omega
        subst this
        rw [idx_snoc_eq, hl]
        exact ⟨L4, rfl, g2'⟩)
    refine ⟨L', iter_step (s' := (((k + 1 : Nat) : Int), L2 ++ [L4])) ?_ f1, f2, f3⟩
    rw [show ((0 : Nat) : Int) = 0 from rfl] at g1
    rw [m_cocketref01_reaches_l1, decide_eq_true (by omega), guardO_pos ⟨by omega, by omega⟩, g1]
    simp only [cond_true, Option.bind_some]
    rw [guardO_pos (by simp; omega), wrap_i64_eq (by omega)]
    rfl
theorem reaches_eq {n : Int} {l : List Offer} (hm : MarketOk ⟨n, l⟩) {to : Int} (hto : 0 ≤ to ∧ to < n) {most : Nat} (hmost : most ≤ 6) :
    ∃ L, m_cocketref01_reaches n l to (most : Int) = some L ∧ L.length = most + 1 ∧ ∀ i : Nat, i < most + 1 → ∃ R, idx L (i : Int) = some R ∧ RL n R (bestK l to i) := by
  have hn1 := hm.n1
  have hn2 := hm.n2
  dsimp only at hn1 hn2
  obtain ⟨q, q1, q2⟩ := Frac_eq (n := 1) (d := 1) (by decide) (by decide)
  have e1 : ratioN 1 1 = ⟨1, 1⟩ := by decide
  rw [e1] at q2
  have hz := zero_RL (n := n) (by omega) [] (fun _ => none)
  obtain ⟨e, f1, f2⟩ := hz.2 to hto.1 hto.2
  have hRL0 : RL n ((List.replicate n.toNat (⟨false, ⟨⟨false, []⟩, ⟨false, []⟩⟩⟩ : Reach)).set to.toNat ⟨true, q⟩) (bestK l to 0) := by
    refine ⟨by rw [List.length_set]; exact hz.1, fun v h0 h1 => ?_⟩
    rw [idx_set ⟨hto.1, by rw [hz.1]; omega⟩ h0]
    unfold bestK
    by_cases hv : v = to
    · subst hv
      rw [if_pos rfl, if_pos rfl]
      exact ⟨_, rfl, rfl, q2⟩
    · rw [if_neg hv, if_neg hv]
      exact hz.2 v h0 h1
  obtain ⟨L', g1, g2, g3⟩ := reaches_l1 hm (to := to) hmost most 1 [_] (by omega) (by omega) (by omega) rfl (fun i hi => by
    have : i = 0 := by omega
    subst this
    exact ⟨_, rfl, hRL0⟩)
  refine ⟨L', ?_, g2, g3⟩
  rw [show ((1 : Nat) : Int) = 1 from rfl] at g1
  rw [m_cocketref01_reaches, guardO_pos ⟨by omega, by omega⟩, q1]
  simp only [Option.bind_some, f1, g1]
def Path (l : List Offer) : Int → List Int → Int → Prop
  | v, [], u => v = u
  | v, i :: p, u => ∃ o, idx l i = some o ∧ o.From = v ∧ Path l o.To p u
def rtI (l : List Offer) (i : Int) : Rat := match idx l i with
  | some o => toRat (rateO o)
  | none => 1
def rtp (l : List Offer) : List Int → Rat
  | [] => 1
  | i :: p => rtI l i * rtp l p
theorem rtp_app (l : List Offer) : ∀ p q : List Int, rtp l (p ++ q) = rtp l p * rtp l q
  | [], q => by simp [rtp, Rat.one_mul]
  | i :: p, q => by simp only [List.cons_append, rtp, rtp_app l p q, Rat.mul_assoc]
theorem path_app {l : List Offer} : ∀ {p q : List Int} {v u : Int}, Path l v (p ++ q) u ↔ ∃ x, Path l v p x ∧ Path l x q u
  | [], q, v, u => ⟨fun h => ⟨v, rfl, h⟩, fun ⟨x, h1, h2⟩ => by cases h1; exact h2⟩
  | i :: p, q, v, u => by
    simp only [List.cons_append, Path]
    constructor
    · rintro ⟨o, h1, h2, h3⟩
      obtain ⟨x, h4, h5⟩ := path_app.1 h3
      exact ⟨x, ⟨o, h1, h2, h4⟩, h5⟩
    · rintro ⟨x, ⟨o, h1, h2, h4⟩, h5⟩
      exact ⟨o, h1, h2, path_app.2 ⟨x, h4, h5⟩⟩
theorem rtI_pos {n : Int} {l : List Offer} (ho : ∀ o ∈ l, offerOk n o = true) (i : Int) : 0 < rtI l i := by
  unfold rtI
  cases h : idx l i with
  | none => decide
  | some o =>
    obtain ⟨h0, h1, h2, _⟩ := idx_some h
    have := rateO_ok (ho o (List.mem_of_getElem? h2))
    exact toRat_pos this.n1 this.d1
theorem rtp_pos {n : Int} {l : List Offer} (ho : ∀ o ∈ l, offerOk n o = true) : ∀ p : List Int, 0 < rtp l p
  | [] => by show (0 : Rat) < 1; decide
  | i :: p => Rat.mul_pos (rtI_pos ho i) (rtp_pos ho p)
theorem foldO_spec {n : Int} {prev : Int → Option Ratio} {m : Int} (hprev : ∀ v r, prev v = some r → RatOk r m) {v : Int} : ∀ (l : List Offer) (c : Option Ratio), (∀ o ∈ l, offerOk n o = true) →
    (∀ r, l.foldl (stepO prev v) c = some r → c = some r ∨ ∃ o ∈ l, o.From = v ∧ ∃ x, prev o.To = some x ∧ r = mulN (rateO o) x) ∧
    (∀ r, c = some r → ∃ r', l.foldl (stepO prev v) c = some r' ∧ toRat r ≤ toRat r') ∧
    (∀ o ∈ l, o.From = v → ∀ x, prev o.To = some x → ∃ r', l.foldl (stepO prev v) c = some r' ∧ toRat (mulN (rateO o) x) ≤ toRat r')
  | [], c, _ => ⟨fun r h => .inl h, fun r h => ⟨r, h, Rat.le_refl⟩, fun o h => by simp at h⟩
  | o :: l, c, ho => by
    obtain ⟨h1, h2, h3⟩ := foldO_spec hprev (v := v) l (stepO prev v c o) (fun x hx => ho x (List.mem_cons_of_mem _ hx))
    have hs1 : ∀ r, stepO prev v c o = some r → c = some r ∨ (o.From = v ∧ ∃ x, prev o.To = some x ∧ r = mulN (rateO o) x) := fun r hr => by
      unfold stepO at hr
      split at hr
      · rename_i hv
        cases hp : prev o.To with
        | none => rw [hp] at hr; exact .inl hr
        | some x =>
          rw [hp] at hr
          simp only [pick] at hr
          split at hr
          · cases hr; exact .inr ⟨hv, x, rfl, rfl⟩
          · split at hr
            · cases hr; exact .inr ⟨hv, x, rfl, rfl⟩
            · exact .inl hr
      · exact .inl hr
    have hs2 : ∀ r, c = some r → ∃ r', stepO prev v c o = some r' ∧ toRat r ≤ toRat r' := fun r hr => by
      subst hr
      unfold stepO
      split
      · cases hp : prev o.To with
        | none => exact ⟨r, rfl, Rat.le_refl⟩
        | some x =>
          simp only [pick]
          split
          · rename_i hlt; exact ⟨_, rfl, Rat.le_of_lt hlt⟩
          · exact ⟨r, rfl, Rat.le_refl⟩
      · exact ⟨r, rfl, Rat.le_refl⟩
    have hs3 : o.From = v → ∀ x, prev o.To = some x → ∃ r', stepO prev v c o = some r' ∧ toRat (mulN (rateO o) x) ≤ toRat r' := fun hv x hx => by
      unfold stepO
      rw [if_pos hv, hx]
      cases c with
      | none => exact ⟨_, rfl, Rat.le_refl⟩
      | some r =>
        simp only [pick]
        split
        · exact ⟨_, rfl, Rat.le_refl⟩
        · rename_i hlt; exact ⟨r, rfl, Rat.not_lt.1 hlt⟩
    refine ⟨fun r hr => ?_, fun r hr => ?_, fun o' ho' hv x hx => ?_⟩
    · rcases h1 r hr with h | ⟨o', h4, h5⟩
      · rcases hs1 r h with h | h
        · exact .inl h
        · exact .inr ⟨o, by simp, h⟩
      · exact .inr ⟨o', List.mem_cons_of_mem _ h4, h5⟩
    · obtain ⟨r', h4, h5⟩ := hs2 r hr
      obtain ⟨r'', h6, h7⟩ := h2 r' h4
      exact ⟨r'', h6, Rat.le_trans h5 h7⟩
    · rcases List.mem_cons.1 ho' with rfl | ho'
      · obtain ⟨r', h4, h5⟩ := hs3 hv x hx
        obtain ⟨r'', h6, h7⟩ := h2 r' h4
        exact ⟨r'', h6, Rat.le_trans h5 h7⟩
      · exact h3 o' ho' hv x hx
theorem mem_idx {l : List Offer} {o : Offer} (h : o ∈ l) : ∃ i : Int, idx l i = some o := by
  obtain ⟨i, hi, e⟩ := List.mem_iff_getElem.1 h
  exact ⟨(i : Int), by rw [idx_nat, List.getElem?_eq_getElem hi, e]⟩
theorem idx_mem {l : List Offer} {o : Offer} {i : Int} (h : idx l i = some o) : o ∈ l := List.mem_of_getElem? (idx_some h).2.2.1
theorem bestK_path {n : Int} {l : List Offer} (ho : ∀ o ∈ l, offerOk n o = true) (to : Int) : ∀ (k : Nat) (v : Int) (r : Ratio), bestK l to k v = some r → ∃ p, Path l v p to ∧ p.length = k ∧ rtp l p = toRat r
  | 0, v, r, h => by
    unfold bestK at h
    split at h
    · cases h; exact ⟨[], ‹_›, rfl, by show (1 : Rat) = toRat ⟨1, 1⟩; decide⟩
    · cases h
  | k + 1, v, r, h => by
    rcases (foldO_spec (n := n) (bestK_ok ho to k) (v := v) l none ho).1 r h with h | ⟨o, h1, h2, x, h3, h4⟩
    · cases h
    · obtain ⟨p, g1, g2, g3⟩ := bestK_path ho to k o.To x h3
      obtain ⟨i, hi⟩ := mem_idx h1
      have hr := rateO_ok (ho o h1)
      have hx := bestK_ok ho to k _ _ h3
      refine ⟨i :: p, ⟨o, hi, h2, g1⟩, by simp [g2], ?_⟩
      rw [h4, toRat_mulN hr.n1 hr.d1 hx.n1 hx.d1, ← g3, rtp, rtI, hi]
theorem bestK_most {n : Int} {l : List Offer} (ho : ∀ o ∈ l, offerOk n o = true) (to : Int) : ∀ (p : List Int) (v : Int), Path l v p to → ∃ r, bestK l to p.length v = some r ∧ rtp l p ≤ toRat r
  | [], v, h => by
    have e : v = to := h
    subst e
    exact ⟨⟨1, 1⟩, by simp [bestK], by rw [rtp]; decide⟩
  | i :: p, v, ⟨o, hi, hv, hp⟩ => by
    obtain ⟨x, h1, h2⟩ := bestK_most ho to p o.To hp
    have hmo := idx_mem hi
    obtain ⟨r, h3, h4⟩ := (foldO_spec (n := n) (bestK_ok ho to p.length) (v := v) l none ho).2.2 o hmo hv x h1
    have hr := rateO_ok (ho o hmo)
    have hx := bestK_ok ho to _ _ _ h1
    refine ⟨r, h3, Rat.le_trans ?_ h4⟩
    rw [toRat_mulN hr.n1 hr.d1 hx.n1 hx.d1, rtp, rtI, hi]
    exact Rat.mul_le_mul_of_nonneg_left h2 (Rat.le_of_lt (toRat_pos hr.n1 hr.d1))
end Go.Pv

set_option linter.unusedSimpArgs false
set_option linter.unusedVariables false
namespace Go.Pv
theorem cmpL_self : ∀ a : List Int, cmpL a a = 0
  | [] => rfl
  | x :: a => by simp only [cmpL, Int.lt_irrefl, if_false, cmpL_self a]
theorem cmpL_app (a x y : List Int) : cmpL (a ++ x) (a ++ y) = cmpL x y := by
  induction a with
  | nil => rfl
  | cons z a ih => simp only [List.cons_append, cmpL, Int.lt_irrefl, if_false, ih]
theorem cmpL_lt_app : ∀ {a b : List Int}, a.length = b.length → cmpL a b < 0 → ∀ x y, cmpL (a ++ x) (b ++ y) < 0
  | [], [], _, h => by simp [cmpL] at h
  | p :: a, q :: b, hl, h => fun x y => by
    simp only [List.cons_append, cmpL] at h ⊢
    split
    · decide
    · rename_i h1
      rw [if_neg h1] at h
      split
      · rename_i h2; rw [if_pos h2] at h; exact absurd h (by decide)
      · rename_i h2
        rw [if_neg h2] at h
        exact cmpL_lt_app (by simpa using hl) h x y
theorem cmpL_zero : ∀ {a b : List Int}, cmpL a b = 0 → a = b
  | [], [], _ => rfl
  | [], _ :: _, h => by simp [cmpL] at h
  | _ :: _, [], h => by simp [cmpL] at h
  | x :: a, y :: b, h => by
    simp only [cmpL] at h
    split at h
    · cases h
    · split at h
      · cases h
      · have := cmpL_zero h
        have : x = y := by omega
        simp_all
theorem cmpL_anti : ∀ {a b : List Int}, cmpL a b ≤ 0 → cmpL b a ≤ 0 → a = b
  | [], [], _, _ => rfl
  | [], _ :: _, _, h => by simp [cmpL] at h
  | _ :: _, [], h, _ => by simp [cmpL] at h
  | x :: a, y :: b, h, h' => by
    simp only [cmpL] at h h'
    by_cases h1 : x < y
    · have : ¬ y < x := by omega
      simp [h1, this] at h'
    · by_cases h2 : y < x
      · simp [h1, h2] at h
      · simp only [h1, h2, if_false] at h h'
        have : x = y := by omega
        rw [this, cmpL_anti h h']
theorem toRat_one : toRat ⟨1, 1⟩ = 1 := by decide
theorem gains_eq {q : Q} {p : Ratio} {e : Reach} {c : Option Ratio} {m : Int} (hq : IsQ q p) (he : IsR e c) (hp : RatOk p m) (hc : ∀ x, c = some x → RatOk x m) (hm : m * m < 10000 ^ 40) (hm1 : 1 ≤ m) :
    m_cocketref01_gains q e = some (match c with | none => false | some x => decide (1 < toRat p * toRat x)) := by
  rw [m_cocketref01_gains]
  cases c with
  | none =>
    have : e.Is = false := he
    rw [this]; rfl
  | some x =>
    obtain ⟨h1, h2⟩ : e.Is = true ∧ IsQ e.Rate x := he
    have hx := hc x rfl
    have hmm : m ≤ m * m := by
      have := Int.mul_le_mul_of_nonneg_left hm1 (show 0 ≤ m by omega)
      omega
    obtain ⟨u, u1, u2⟩ := Mul_eq hq h2 hp hx (by omega)
    obtain ⟨w, w1, w2⟩ := Frac_eq (n := 1) (d := 1) (by decide) (by decide)
    have e1 : ratioN 1 1 = ⟨1, 1⟩ := by decide
    rw [e1] at w2
    have h11 : RatOk ⟨1, 1⟩ (m * m) := ⟨by decide, by dsimp only; omega, by decide, by dsimp only; omega, by decide⟩
    have hmul := mulN_ok hp hx
    rw [h1, u1, w1]
    simp only [cond_true, Option.bind_some]
    rw [Cmp_eq u2 w2 hmul h11 hm]
    simp only [Option.bind_some]
    congr 1
    have hlt := toRat_lt (p := ⟨1, 1⟩) (q := mulN p x) (by decide) hmul.d1
    rw [toRat_mulN hp.n1 hp.d1 hx.n1 hx.d1, toRat_one] at hlt
    dsimp only at hlt ⊢
    by_cases h : 1 < toRat p * toRat x
    · rw [decide_eq_true h]
      have := hlt.1 h
      exact decide_eq_true ((sgn_pos _).2 (by omega))
    · rw [decide_eq_false h]
      exact decide_eq_false fun h' => h (hlt.2 (by have := (sgn_pos _).1 h'; omega))
def GainAt (l : List Offer) (k : Nat) (s : Int) (p : List Int) : Prop := Path l s p s ∧ p.length = k ∧ 1 < rtp l p
def validI (l : List Offer) (s : Int) (kk : Nat) (v : Int) (c : Rat) (i : Int) : Prop := ∃ o, idx l i = some o ∧ o.From = v ∧ ∃ x, bestK l s kk o.To = some x ∧ 1 < c * toRat (rateO o) * toRat x
theorem closed_l2 {n : Int} {l : List Offer} (hm : MarketOk ⟨n, l⟩) {R : List (List Reach)} {k : Nat} (hk : k ≤ 6) {s : Int} (hR : ∀ i : Nat, i ≤ k → ∃ r, idx R (i : Int) = some r ∧ RL n r (bestK l s i)) {e6 : Offer}
    {L : List Int} {q : Q} {c : Ratio} (hL : L.length < k) (hL1 : 1 ≤ L.length) (hq : IsQ q c) (hc : RatOk c (50 ^ L.length)) : ∀ (j i : Nat), j = l.length - i → (∃ i', i ≤ i' ∧ validI l s (k - L.length - 1) e6.To (toRat c) (i' : Int)) →
    ∃ (i' : Nat) (o : Offer) (q' : Q), iter (m_cocketref01_closed_l2 l R (k : Int) e6) ((i : Int), L, q) = some (L ++ [(i' : Int)], q') ∧ i ≤ i' ∧ validI l s (k - L.length - 1) e6.To (toRat c) (i' : Int) ∧ (∀ i'', i ≤ i'' → i'' < i' → ¬ validI l s (k - L.length - 1) e6.To (toRat c) (i'' : Int)) ∧
      idx l (i' : Int) = some o ∧ IsQ q' (mulN c (rateO o))
  | 0, i, hj, ⟨i', h1, o, h2, _⟩ => by
    have := (idx_some h2).2.1
    omega
  | j + 1, i, hj, hex => by
    have hlen := hm.len
    have hn2 := hm.n2
    dsimp only at hlen hn2
    have hil : i < l.length := by
      obtain ⟨i', h1, o, h2, _⟩ := hex
      have := (idx_some h2).2.1
      omega
    obtain ⟨o, e1, e2, e3, e4⟩ := idx_lt (l := l) (i := (i : Int)) (by omega) (by omega)
    have hok := hm.good o e4
    have hok2 := hok
    simp only [offerOk, goodOffer, Bool.and_eq_true, decide_eq_true_eq] at hok2
    have hwi : IntKind.i64.wrap ((i : Int) + 1) = ((i + 1 : Nat) : Int) := by rw [wrap_i64_eq (by omega)]; omega
    have hon : ¬ validI l s (k - L.length - 1) e6.To (toRat c) (i : Int) → m_cocketref01_closed_l2 l R (k : Int) e6 ((i : Int), L, q) = some (.inl (((i + 1 : Nat) : Int), L, q)) →
        ∃ (i' : Nat) (o : Offer) (q' : Q), iter (m_cocketref01_closed_l2 l R (k : Int) e6) ((i : Int), L, q) = some (L ++ [(i' : Int)], q') ∧ i ≤ i' ∧ validI l s (k - L.length - 1) e6.To (toRat c) (i' : Int) ∧ (∀ i'', i ≤ i'' → i'' < i' → ¬ validI l s (k - L.length - 1) e6.To (toRat c) (i'' : Int)) ∧
          idx l (i' : Int) = some o ∧ IsQ q' (mulN c (rateO o)) := fun hnv hst => by
      obtain ⟨i', h1, h2⟩ := hex
      have hne : i ≠ i' := fun h => by subst h; exact hnv h2
      obtain ⟨i2, o2, q2, g1, g2, g3, g4, g5⟩ := closed_l2 hm hk hR (e6 := e6) hL hL1 hq hc j (i + 1) (by omega) ⟨i', by omega, h2⟩
      refine ⟨i2, o2, q2, iter_step hst g1, by omega, g3, fun i'' h3 h4 => ?_, g5⟩
      rcases Nat.lt_or_ge i i'' with h | h
      · exact g4 i'' (by omega) h4
      · have : i = i'' := by omega
        subst this; exact hnv
    by_cases hv : o.From = e6.To
    · obtain ⟨qo, r1, r2⟩ := rate_eq hok
      have hro := rateO_ok hok
      have hp50 : (50 : Int) ^ L.length ≤ 244140625000000000000 := by
        have h1 := pow50_le (show L.length ≤ 12 by omega)
        have h2 : (50 : Int) ^ 12 = 244140625000000000000 := by decide
        omega
      have hp1 : (1 : Int) ≤ 50 ^ L.length := by
        have : (0 : Int) < 50 ^ L.length := Int.pow_pos (by decide)
        omega
      have h40 : (10000 : Int) ^ 12 ≤ 10000 ^ 40 := pow_le_pow (by decide)
      have h12 : (10000 : Int) ^ 12 = 1000000000000000000000000000000000000000000000000 := by decide
      obtain ⟨qm, m1, m2⟩ := Mul_eq hq r2 (hc.le (m' := 12207031250000000000000) (by omega)) (hro.le (by omega)) (by omega)
      have hmo := mulN_ok hc hro
      obtain ⟨Rr, f1, f2⟩ := hR (k - L.length - 1) (by omega)
      obtain ⟨e, f3, f4⟩ := f2.2 o.To (by omega) (by omega)
      have ew : IntKind.i64.wrap (IntKind.i64.wrap ((k : Int) - (L.length : Int)) - 1) = ((k - L.length - 1 : Nat) : Int) := by
        rw [wrap_i64_eq (x := (k : Int) - (L.length : Int)) (by omega), wrap_i64_eq (by omega)]; omega
      have hbk : ∀ x, bestK l s (k - L.length - 1) o.To = some x → RatOk x 12207031250000000000000 := fun x hx => by
        have := bestK_ok hm.good s _ _ x hx
        refine this.le ?_
        have h1 := pow50_le (show k - L.length - 1 ≤ 12 by omega)
        have h2 : (50 : Int) ^ 12 = 244140625000000000000 := by decide
        omega
      have hg := gains_eq m2 f4 (hmo.le (m' := 12207031250000000000000) (by omega)) hbk (by omega) (by decide)
      rw [toRat_mulN hc.n1 hc.d1 hro.n1 hro.d1] at hg
      have hiff : validI l s (k - L.length - 1) e6.To (toRat c) (i : Int) ↔ (match bestK l s (k - L.length - 1) o.To with | none => false | some x => decide (1 < toRat c * toRat (rateO o) * toRat x)) = true := by
        constructor
        · rintro ⟨o', h1, h2, x, h3, h4⟩
          rw [e1] at h1; cases h1
          rw [h3]; exact decide_eq_true h4
        · intro h
          cases hx : bestK l s (k - L.length - 1) o.To with
          | none => rw [hx] at h; cases h
          | some x =>
            rw [hx] at h
            exact ⟨o, e1, hv, x, hx, by simpa using h⟩
      rcases Bool.eq_false_or_eq_true (match bestK l s (k - L.length - 1) o.To with | none => false | some x => decide (1 < toRat c * toRat (rateO o) * toRat x)) with hb | hb
      · rw [hb] at hg
        refine ⟨i, o, qm, iter_done ?_, Nat.le_refl _, hiff.2 hb, fun i'' h1 h2 => absurd h1 (by omega), e1, m2⟩
        rw [m_cocketref01_closed_l2, decide_eq_true (by omega)]
        simp only [cond_true, e1, Option.bind_some, decide_eq_true hv, r1, m1, ew, f1, f3, hg]
        rw [guardO_pos (by simp; omega)]
      · rw [hb] at hg
        refine hon (fun h => by rw [hiff.1 h] at hb; cases hb) ?_
        rw [m_cocketref01_closed_l2, decide_eq_true (by omega)]
        simp only [cond_true, e1, Option.bind_some, decide_eq_true hv, r1, m1, ew, f1, f3, hg, cond_false, hwi]
    · refine hon (fun ⟨o', h1, h2, _⟩ => by rw [e1] at h1; cases h1; exact hv h2) ?_
      rw [m_cocketref01_closed_l2, decide_eq_true (by omega)]
      simp only [cond_true, e1, Option.bind_some, decide_eq_false hv, cond_false, hwi]
end Go.Pv

set_option linter.unusedSimpArgs false
set_option linter.unusedVariables false
namespace Go.Pv
theorem path_det {l : List Offer} : ∀ {p : List Int} {v u u' : Int}, Path l v p u → Path l v p u' → u = u'
  | [], v, u, u', h, h' => h.symm.trans h'
  | i :: p, v, u, u', ⟨o, h1, _, h3⟩, ⟨o', h1', _, h3'⟩ => by
    rw [h1] at h1'; cases h1'
    exact path_det h3 h3'
def LeastSo (l : List Offer) (k : Nat) (s : Int) (first : Int) (L : List Int) : Prop :=
  ∀ p', GainAt l k s p' → p'.head? = some first → p'.take L.length = L ∨ cmpL L (p'.take L.length) < 0
theorem valid_of_path {n : Int} {l : List Offer} (ho : ∀ o ∈ l, offerOk n o = true) {s v : Int} {i : Int} {rest : List Int} {c : Rat} (hc : 0 < c) (hp : Path l v (i :: rest) s) (hg : 1 < c * rtp l (i :: rest)) : validI l s rest.length v c i := by
  obtain ⟨o, h1, h2, h3⟩ := hp
  obtain ⟨x, h4, h5⟩ := bestK_most ho s rest o.To h3
  have hro := rateO_ok (ho o (idx_mem h1))
  have hpos := toRat_pos hro.n1 hro.d1
  refine ⟨o, h1, h2, x, h4, ?_⟩
  rw [rtp, rtI, h1] at hg
  dsimp only at hg
  rw [← Rat.mul_assoc] at hg
  have hm := Rat.mul_le_mul_of_nonneg_left h5 (Rat.le_of_lt (Rat.mul_pos hc hpos))
  exact Rat.not_le.1 fun h => Rat.not_le.2 hg (Rat.le_trans hm h)
theorem closed_l1 {n : Int} {l : List Offer} (hm : MarketOk ⟨n, l⟩) {R : List (List Reach)} {k : Nat} (hk : k ≤ 6) {s first : Int} (hR : ∀ i : Nat, i ≤ k → ∃ r, idx R (i : Int) = some r ∧ RL n r (bestK l s i)) :
    ∀ (j : Nat) (L : List Int) (q : Q) (c : Ratio) (v : Int) (il : Int) (e6 : Offer), j = k - L.length → L.length ≤ k → 1 ≤ L.length → IsQ q c → RatOk c (50 ^ L.length) → toRat c = rtp l L → Path l s L v → L.getLast? = some il → idx l il = some e6 → e6.To = v → L.head? = some first →
      (∃ x, bestK l s (k - L.length) v = some x ∧ 1 < toRat c * toRat x) → LeastSo l k s first L →
      ∃ p, iter (m_cocketref01_closed_l1 l R (k : Int)) (L, q) = some p ∧ GainAt l k s p ∧ p.head? = some first ∧ ∀ p', GainAt l k s p' → p'.head? = some first → cmpL p p' ≤ 0
  | 0, L, q, c, v, il, e6, hj, hLk, hL1, hq, hc, hcr, hp, hla, hil, hto, hhd, ⟨x, hx1, hx2⟩, hls => by
    have e : L.length = k := by omega
    rw [e, Nat.sub_self] at hx1
    unfold bestK at hx1
    split at hx1
    · rename_i hvs
      cases hx1
      subst hvs
      rw [toRat_one, Rat.mul_one, hcr] at hx2
      refine ⟨L, iter_done ?_, ⟨hp, e, hx2⟩, hhd, fun p' h1 h2 => ?_⟩
      · rw [m_cocketref01_closed_l1, decide_eq_false (by omega)]; rfl
      · have := hls p' h1 h2
        rw [e, List.take_of_length_le (by have := h1.2.1; omega)] at this
        rcases this with h | h
        · rw [h, cmpL_self]; omega
        · omega
    · cases hx1
  | j + 1, L, q, c, v, il, e6, hj, hLk, hL1, hq, hc, hcr, hp, hla, hil, hto, hhd, ⟨x, hx1, hx2⟩, hls => by
    have hlen := hm.len
    dsimp only at hlen
    have hcpos := toRat_pos hc.n1 hc.d1
    have hex : ∃ i', 0 ≤ i' ∧ validI l s (k - L.length - 1) e6.To (toRat c) (i' : Nat) := by
      obtain ⟨p, p1, p2, p3⟩ := bestK_path hm.good s _ _ x hx1
      cases p with
      | nil => simp at p2; omega
      | cons i0 rest =>
        have := valid_of_path hm.good hcpos p1 (by rw [p3]; exact hx2)
        have hrl : rest.length = k - L.length - 1 := by simp at p2; omega
        rw [hrl] at this
        have this2 := this
        obtain ⟨o, o1, _⟩ := this2
        have h0 := (idx_some o1).1
        refine ⟨i0.toNat, Nat.zero_le _, ?_⟩
        rw [hto, Int.toNat_of_nonneg h0]
        exact this
    obtain ⟨i', o, q', g1, _, g3, g4, g5, g6⟩ := closed_l2 hm hk hR (e6 := e6) (q := q) (c := c) (L := L) (by omega) hL1 hq hc l.length 0 (by omega) (by obtain ⟨i, h1, h2⟩ := hex; exact ⟨i, h1, h2⟩)
    have hmo := idx_mem g5
    have hro := rateO_ok (hm.good o hmo)
    have hnew := mulN_ok hc hro
    obtain ⟨o2, o21, o22, y, y1, y2⟩ := g3
    rw [g5] at o21; cases o21
    have hls2 : LeastSo l k s first (L ++ [(i' : Int)]) := fun p' h1 h2 => by
      have hl' : p'.length = k := h1.2.1
      obtain ⟨a, rest, hsplit⟩ : ∃ a rest, p' = p'.take L.length ++ a :: rest := ⟨p'[L.length]'(by omega), p'.drop (L.length + 1), by rw [← List.drop_eq_getElem_cons]; exact (List.take_append_drop _ _).symm⟩
      have htk : p'.take (L.length + 1) = p'.take L.length ++ [a] := by
        have hlt : (p'.take L.length).length = L.length := by rw [List.length_take]; omega
        have : p'.take (L.length + 1) = (p'.take L.length ++ a :: rest).take (L.length + 1) := by rw [← hsplit]
        rw [this, List.take_append, hlt]
        simp
        rw [List.take_of_length_le (by simp; omega)]
      rw [List.length_append, List.length_singleton, htk]
      rcases hls p' h1 h2 with h | h
      · rw [h] at hsplit ⊢
        have hpath := h1.1
        rw [hsplit] at hpath
        obtain ⟨w, w1, w2⟩ := path_app.1 hpath
        have hwv := path_det w1 hp
        subst hwv
        have hg := h1.2.2
        rw [hsplit, rtp_app, ← hcr] at hg
        have hva := valid_of_path hm.good hcpos w2 hg
        have hrl : rest.length = k - L.length - 1 := by
          have := congrArg List.length hsplit
          simp at this
          omega
        rw [hrl, ← hto] at hva
        have ha0 : 0 ≤ a := by
          obtain ⟨o', o1', _⟩ := hva
          exact (idx_some o1').1
        have hai : i' ≤ a.toNat := by
          rcases Nat.lt_or_ge a.toNat i' with hlt | hge
          · exact absurd (by rw [Int.toNat_of_nonneg ha0]; exact hva) (g4 a.toNat (Nat.zero_le _) hlt)
          · exact hge
        rcases Nat.lt_or_ge i' a.toNat with hlt | hge
        · right
          rw [cmpL_app]
          simp only [cmpL]
          rw [if_pos (by omega)]; decide
        · left
          have : a = (i' : Int) := by omega
          rw [this]
      · right
        exact cmpL_lt_app (by rw [List.length_take]; omega) h _ _
    obtain ⟨p, f1, f2, f3⟩ := closed_l1 hm hk (first := first) hR j (L ++ [(i' : Int)]) q' (mulN c (rateO o)) o.To (i' : Int) o (by simp; omega) (by simp; omega) (by simp) g6 (by
        simp only [List.length_append, List.length_singleton, Int.pow_succ]; exact hnew) (by
        rw [toRat_mulN hc.n1 hc.d1 hro.n1 hro.d1, rtp_app, hcr, rtp, rtp, rtI, g5, Rat.mul_one]) (path_app.2 ⟨v, hp, o, g5, by rw [o22, hto], rfl⟩) (by simp) g5 rfl (by
        cases L with
        | nil => simp at hL1
        | cons z L => exact hhd) ⟨y, by rw [List.length_append, List.length_singleton, show k - (L.length + 1) = k - L.length - 1 by omega]; exact y1, by rw [toRat_mulN hc.n1 hc.d1 hro.n1 hro.d1]; exact y2⟩ hls2
    refine ⟨p, iter_step (s' := (L ++ [(i' : Int)], q')) ?_ f1, f2, f3⟩
    have hlast : idx L ((L.length : Int) - 1) = some il := by
      rw [show ((L.length : Int) - 1) = ((L.length - 1 : Nat) : Int) by omega, idx_nat, ← List.getLast?_eq_getElem?]
      exact hla
    rw [show ((0 : Nat) : Int) = 0 from rfl] at g1
    rw [m_cocketref01_closed_l1, decide_eq_true (by omega), wrap_i64_eq (by omega)]
    simp only [cond_true, hlast, hil, Option.bind_some, g1]
theorem closed_eq {n : Int} {l : List Offer} (hm : MarketOk ⟨n, l⟩) {R : List (List Reach)} {k : Nat} (hk1 : 1 ≤ k) (hk : k ≤ 6) {i : Nat} {o : Offer} (hi : idx l (i : Int) = some o) (hR : ∀ i : Nat, i ≤ k → ∃ r, idx R (i : Int) = some r ∧ RL n r (bestK l o.From i)) :
    (m_cocketref01_closed l R (i : Int) (k : Int) = some ([], false) ∧ ∀ p', GainAt l k o.From p' → p'.head? = some (i : Int) → False) ∨
    ∃ p, m_cocketref01_closed l R (i : Int) (k : Int) = some (p, true) ∧ GainAt l k o.From p ∧ p.head? = some (i : Int) ∧ ∀ p', GainAt l k o.From p' → p'.head? = some (i : Int) → cmpL p p' ≤ 0 := by
  have hlen := hm.len
  dsimp only at hlen
  have hmo := idx_mem hi
  have hok := hm.good o hmo
  have hok2 := hok
  simp only [offerOk, goodOffer, Bool.and_eq_true, decide_eq_true_eq] at hok2
  have hro := rateO_ok hok
  obtain ⟨q, q1, q2⟩ := rate_eq hok
  obtain ⟨Rr, f1, f2⟩ := hR (k - 1) (by omega)
  obtain ⟨e, f3, f4⟩ := f2.2 o.To (by omega) (by omega)
  have ew : IntKind.i64.wrap ((k : Int) - 1) = ((k - 1 : Nat) : Int) := by rw [wrap_i64_eq (by omega)]; omega
  have hbk : ∀ x, bestK l o.From (k - 1) o.To = some x → RatOk x 244140625000000000000 := fun x hx => by
    have := bestK_ok hm.good o.From _ _ x hx
    refine this.le ?_
    have h1 := pow50_le (show k - 1 ≤ 12 by omega)
    have h2 : (50 : Int) ^ 12 = 244140625000000000000 := by decide
    omega
  have h40 : (10000 : Int) ^ 12 ≤ 10000 ^ 40 := pow_le_pow (by decide)
  have h12 : (10000 : Int) ^ 12 = 1000000000000000000000000000000000000000000000000 := by decide
  have hg := gains_eq q2 f4 (hro.le (m' := 244140625000000000000) (by decide)) hbk (by omega) (by decide)
  have hhead : ∀ p', GainAt l k o.From p' → p'.head? = some (i : Int) → ∃ rest x, p' = (i : Int) :: rest ∧ bestK l o.From (k - 1) o.To = some x ∧ 1 < toRat (rateO o) * toRat x := fun p' h1 h2 => by
    cases p' with
    | nil => cases h2
    | cons a rest =>
      simp only [List.head?_cons, Option.some.injEq] at h2
      subst h2
      have hv := valid_of_path hm.good (c := 1) (by decide) h1.1 (by rw [Rat.one_mul]; exact h1.2.2)
      have hrl : rest.length = k - 1 := by have := h1.2.1; simp at this; omega
      rw [hrl] at hv
      obtain ⟨o', o1, _, x, x1, x2⟩ := hv
      rw [hi] at o1; cases o1
      rw [Rat.one_mul] at x2
      exact ⟨rest, x, rfl, x1, x2⟩
  rw [m_cocketref01_closed, hi, ew]
  simp only [Option.bind_some, q1, f1, f3, hg]
  cases hx : bestK l o.From (k - 1) o.To with
  | none =>
    left
    refine ⟨rfl, fun p' h1 h2 => ?_⟩
    obtain ⟨_, x, _, h3, _⟩ := hhead p' h1 h2
    rw [hx] at h3; cases h3
  | some x =>
    by_cases hgt : 1 < toRat (rateO o) * toRat x
    · right
      obtain ⟨p, g1, g2, g3, g4⟩ := closed_l1 hm hk (s := o.From) (first := (i : Int)) hR (k - 1) [(i : Int)] q (rateO o) o.To (i : Int) o (by simp) (by simp; omega) (by simp) q2 (by simpa using hro) (by
          rw [rtp, rtp, rtI, hi, Rat.mul_one]) ⟨o, hi, rfl, rfl⟩ rfl hi rfl rfl ⟨x, hx, hgt⟩ (fun p' h1 h2 => by
          obtain ⟨rest, _, h3, _⟩ := hhead p' h1 h2
          left; rw [h3]; rfl)
      refine ⟨p, ?_, g2, g3, g4⟩
      simp only [decide_eq_true hgt, Bool.not_true, cond_false, g1, Option.bind_some]
    · left
      refine ⟨by simp only [decide_eq_false hgt, Bool.not_false, cond_true], fun p' h1 h2 => ?_⟩
      obtain ⟨_, x', _, h3, h4⟩ := hhead p' h1 h2
      rw [hx] at h3; cases h3
      exact hgt h4
def Gain (l : List Offer) (k : Nat) (p : List Int) : Prop := ∃ s, GainAt l k s p
theorem gain_head {l : List Offer} {k : Nat} (hk : 1 ≤ k) {p : List Int} (h : Gain l k p) : ∃ (i : Nat) (o : Offer), p.head? = some (i : Int) ∧ idx l (i : Int) = some o ∧ GainAt l k o.From p := by
  obtain ⟨s, h1, h2, h3⟩ := h
  cases p with
  | nil => simp at h2; omega
  | cons a rest =>
    obtain ⟨o, g1, g2, g3⟩ := h1
    have h0 := (idx_some g1).1
    refine ⟨a.toNat, o, by rw [Int.toNat_of_nonneg h0]; rfl, by rw [Int.toNat_of_nonneg h0]; exact g1, ?_⟩
    rw [g2]
    exact ⟨⟨o, g1, g2, g3⟩, h2, h3⟩
end Go.Pv

set_option linter.unusedSimpArgs false
set_option linter.unusedVariables false
namespace Go.Pv
def AllReach (n : Int) (l : List Offer) (s : Int) (R : List (List Reach)) : Prop := ∀ i : Nat, i ≤ n.toNat → ∃ r, idx R (i : Int) = some r ∧ RL n r (bestK l s i)
theorem gaining_l1 {n : Int} {l : List Offer} (hm : MarketOk ⟨n, l⟩) : ∀ (j s : Nat) (L : List (List (List Reach))), j = n.toNat - s → (s : Int) ≤ n → L.length = s → (∀ i : Nat, i < s → ∃ R, idx L (i : Int) = some R ∧ AllReach n l i R) →
    ∃ L', iter (m_cocketref01_gaining_l1 n l) ((s : Int), L) = some L' ∧ ∀ i : Nat, (i : Int) < n → ∃ R, idx L' (i : Int) = some R ∧ AllReach n l i R
  | 0, s, L, hj, hs, hl, h => by
    have hn1 := hm.n1
    dsimp only at hn1
    refine ⟨L, iter_done ?_, fun i hi => h i (by omega)⟩
    rw [m_cocketref01_gaining_l1, decide_eq_false (by omega)]; rfl
  | j + 1, s, L, hj, hs, hl, h => by
    have hn1 := hm.n1
    have hn2 := hm.n2
    dsimp only at hn1 hn2
    obtain ⟨R, r1, r2, r3⟩ := reaches_eq hm (to := (s : Int)) ⟨by omega, by omega⟩ (most := n.toNat) (by omega)
    have en : ((n.toNat : Nat) : Int) = n := by omega
    rw [en] at r1
    obtain ⟨L', g1, g2⟩ := gaining_l1 hm j (s + 1) (L ++ [R]) (by omega) (by omega) (by simp; omega) (fun i hi => by
      rcases Nat.lt_or_ge i s with his | his
      · rw [idx_snoc_lt (by omega)]; exact h i his
      · have : i = L.length := by omega
        subst this
        rw [idx_snoc_eq]
        refine ⟨R, rfl, fun i hi => ?_⟩
        rw [hl]
        exact r3 i (by omega))
    refine ⟨L', iter_step (s' := (((s + 1 : Nat) : Int), L ++ [R])) ?_ g1, g2⟩
    rw [m_cocketref01_gaining_l1, decide_eq_true (by omega), r1]
    simp only [cond_true, Option.bind_some]
    rw [guardO_pos (by simp; omega), wrap_i64_eq (by omega)]
    rfl
theorem gaining_l3 {n : Int} {l : List Offer} (hm : MarketOk ⟨n, l⟩) {L1 : List (List (List Reach))} (hL : ∀ i : Nat, (i : Int) < n → ∃ R, idx L1 (i : Int) = some R ∧ AllReach n l i R) {k : Nat} (hk1 : 1 ≤ k) (hk : (k : Int) ≤ n) : ∀ (j i : Nat), j = l.length - i →
    (∀ p a : _, Gain l k p → p.head? = some (a : Int) → (i : Int) ≤ a) →
    (iter (m_cocketref01_gaining_l3 l L1 (k : Int)) (i : Int) = some (.inl ()) ∧ ∀ p, ¬ Gain l k p) ∨
    ∃ p, iter (m_cocketref01_gaining_l3 l L1 (k : Int)) (i : Int) = some (.inr (p, true)) ∧ Gain l k p ∧ ∀ p', Gain l k p' → cmpL p p' ≤ 0
  | 0, i, hj, h => by
    left
    refine ⟨iter_done ?_, fun p hp => ?_⟩
    · rw [m_cocketref01_gaining_l3, decide_eq_false (by omega)]; rfl
    · obtain ⟨i', o, h1, h2, _⟩ := gain_head hk1 hp
      have := h p _ hp h1
      have := (idx_some h2).2.1
      omega
  | j + 1, i, hj, h => by
    have hn2 := hm.n2
    have hlen := hm.len
    dsimp only at hn2 hlen
    obtain ⟨o, e1, e2, e3, e4⟩ := idx_lt (l := l) (i := (i : Int)) (by omega) (by omega)
    have hok2 := hm.good o e4
    simp only [offerOk, goodOffer, Bool.and_eq_true, decide_eq_true_eq] at hok2
    obtain ⟨R, r1, r2⟩ := hL o.From.toNat (by omega)
    have ef : ((o.From.toNat : Nat) : Int) = o.From := by omega
    rw [ef] at r1 r2
    rcases closed_eq hm hk1 (k := k) (by omega) e1 (R := R) (fun i hi => r2 i (by omega)) with ⟨c1, c2⟩ | ⟨p, c1, c2, c3, c4⟩
    · have hnext : ∀ p a : _, Gain l k p → p.head? = some (a : Int) → ((i + 1 : Nat) : Int) ≤ a := fun p a hp ha => by
        have h1 := h p a hp ha
        rcases Int.lt_or_le (i : Int) a with hlt | hge
        · omega
        · exfalso
          have hai : a = (i : Int) := by omega
          subst hai
          obtain ⟨i', o', g1, g2, g3⟩ := gain_head hk1 hp
          rw [ha] at g1
          have : (i : Int) = (i' : Int) := Option.some.inj g1
          rw [← this, e1] at g2
          cases g2
          exact c2 p g3 ha
      have hst : m_cocketref01_gaining_l3 l L1 (k : Int) (i : Int) = some (.inl (((i + 1 : Nat) : Int))) := by
        rw [m_cocketref01_gaining_l3, decide_eq_true (by omega)]
        simp only [cond_true, e1, r1, c1, Option.bind_some, cond_false]
        rw [wrap_i64_eq (by omega)]; rfl
      rcases gaining_l3 hm hL hk1 hk j (i + 1) (by omega) hnext with ⟨g1, g2⟩ | ⟨p, g1, g2⟩
      · exact .inl ⟨iter_step hst g1, g2⟩
      · exact .inr ⟨p, iter_step hst g1, g2⟩
    · right
      refine ⟨p, iter_done ?_, ⟨_, c2⟩, fun p' hp' => ?_⟩
      · rw [m_cocketref01_gaining_l3, decide_eq_true (by omega)]
        simp only [cond_true, e1, r1, c1, Option.bind_some]
      · obtain ⟨i', o', g1, g2, g3⟩ := gain_head hk1 hp'
        have h1 := h p' _ hp' g1
        rcases Int.lt_or_le (i : Int) (i' : Int) with hlt | hge
        · cases p with
          | nil => cases c3
          | cons a p =>
            cases p' with
            | nil => cases g1
            | cons b p' =>
              simp only [List.head?_cons, Option.some.injEq] at c3 g1
              subst c3 g1
              simp only [cmpL]
              rw [if_pos hlt]; decide
        · have : (i' : Int) = (i : Int) := by omega
          rw [this] at g1 g2
          rw [e1] at g2; cases g2
          exact c4 p' g3 g1
theorem gaining_l2 {n : Int} {l : List Offer} (hm : MarketOk ⟨n, l⟩) {L1 : List (List (List Reach))} (hL : ∀ i : Nat, (i : Int) < n → ∃ R, idx L1 (i : Int) = some R ∧ AllReach n l i R) : ∀ (j k : Nat), j = n.toNat + 1 - k → 1 ≤ k →
    (iter (m_cocketref01_gaining_l2 n l L1) (k : Int) = some (.inl ()) ∧ ∀ k', k ≤ k' → (k' : Int) ≤ n → ∀ p, ¬ Gain l k' p) ∨
    ∃ k' p, iter (m_cocketref01_gaining_l2 n l L1) (k : Int) = some (.inr (p, true)) ∧ k ≤ k' ∧ (k' : Int) ≤ n ∧ Gain l k' p ∧ (∀ p', Gain l k' p' → cmpL p p' ≤ 0) ∧ ∀ k'', k ≤ k'' → k'' < k' → ∀ p', ¬ Gain l k'' p'
  | 0, k, hj, hk => by
    left
    refine ⟨iter_done ?_, fun k' h1 h2 => by omega⟩
    rw [m_cocketref01_gaining_l2, decide_eq_false (by omega)]; rfl
  | j + 1, k, hj, hk => by
    have hn2 := hm.n2
    dsimp only at hn2
    rcases gaining_l3 hm hL hk (k := k) (by omega) l.length 0 (by omega) (fun p a hp ha => by
      obtain ⟨i', o', g1, _⟩ := gain_head hk hp
      rw [ha] at g1
      have : a = (i' : Int) := Option.some.inj g1
      omega) with ⟨c1, c2⟩ | ⟨p, c1, c2, c3⟩
    · have hst : m_cocketref01_gaining_l2 n l L1 (k : Int) = some (.inl ((k + 1 : Nat) : Int)) := by
        rw [show ((0 : Nat) : Int) = 0 from rfl] at c1
        rw [m_cocketref01_gaining_l2, decide_eq_true (by omega)]
        simp only [cond_true, c1, Option.bind_some]
        rw [wrap_i64_eq (by omega)]; rfl
      rcases gaining_l2 hm hL j (k + 1) (by omega) (by omega) with ⟨g1, g2⟩ | ⟨k', p, g1, g2, g3, g4, g5, g6⟩
      · left
        refine ⟨iter_step hst g1, fun k' h1 h2 => ?_⟩
        rcases Nat.lt_or_ge k k' with h | h
        · exact g2 k' (by omega) h2
        · have : k' = k := by omega
          subst this; exact c2
      · right
        refine ⟨k', p, iter_step hst g1, by omega, g3, g4, g5, fun k'' h1 h2 => ?_⟩
        rcases Nat.lt_or_ge k k'' with h | h
        · exact g6 k'' (by omega) h2
        · have : k'' = k := by omega
          subst this; exact c2
    · right
      refine ⟨k, p, iter_done ?_, Nat.le_refl _, by omega, c2, c3, fun k'' h1 h2 => by omega⟩
      rw [show ((0 : Nat) : Int) = 0 from rfl] at c1
      rw [m_cocketref01_gaining_l2, decide_eq_true (by omega)]
      simp only [cond_true, c1, Option.bind_some]
theorem gaining_eq {n : Int} {l : List Offer} (hm : MarketOk ⟨n, l⟩) :
    (m_cocketref01_gaining n l = some ([], false) ∧ ∀ k : Nat, 2 ≤ k → (k : Int) ≤ n → ∀ p, ¬ Gain l k p) ∨
    ∃ (k : Nat) (p : List Int), m_cocketref01_gaining n l = some (p, true) ∧ 2 ≤ k ∧ (k : Int) ≤ n ∧ Gain l k p ∧ (∀ p', Gain l k p' → cmpL p p' ≤ 0) ∧ ∀ k' : Nat, 2 ≤ k' → k' < k → ∀ p', ¬ Gain l k' p' := by
  have hn1 := hm.n1
  dsimp only at hn1
  obtain ⟨L1, h1, h2⟩ := gaining_l1 hm n.toNat 0 [] (by omega) (by omega) rfl (fun i hi => by omega)
  rw [show ((0 : Nat) : Int) = 0 from rfl] at h1
  rw [m_cocketref01_gaining, h1]
  simp only [Option.bind_some]
  rcases gaining_l2 hm h2 (n.toNat + 1 - 2) 2 rfl (by decide) with ⟨g1, g2⟩ | ⟨k', p, g1, g2⟩
  · left
    rw [show ((2 : Nat) : Int) = 2 from rfl] at g1
    rw [g1]
    exact ⟨rfl, g2⟩
  · right
    rw [show ((2 : Nat) : Int) = 2 from rfl] at g1
    rw [g1]
    exact ⟨k', p, rfl, g2⟩
end Go.Pv

set_option linter.unusedSimpArgs false
set_option linter.unusedVariables false
namespace Go.Pv
theorem zipIdx_idx {l : List Offer} {o : Offer} {i : Nat} : (o, i) ∈ l.zipIdx ↔ idx l (i : Int) = some o := by
  rw [List.mem_zipIdx_iff_getElem?, idx_nat]
theorem walkOn_sound {n : Int} {l : List Offer} (ho : ∀ o ∈ l, offerOk n o = true) (frm length : Int) (rounds : Bool) : ∀ (k : Nat) (w : Walk) (s : List Bool), RatOk w.rate (50 ^ w.list.length) →
    ∀ x ∈ walkOn l frm length rounds k w s, ∃ p, x.list = w.list ++ p ∧ Path l w.to p x.to ∧ RatOk x.rate (50 ^ x.list.length) ∧ toRat x.rate = toRat w.rate * rtp l p ∧ (x.list.length : Int) = length ∧ (decide (x.to = frm) == rounds) = true
  | 0, w, s, _, x, hx => by simp [walkOn] at hx
  | k + 1, w, s, hr, x, hx => by
    rw [walkOn] at hx
    by_cases he : (w.list.length : Int) = length
    · rw [if_pos he] at hx
      split at hx
      · simp at hx
      · rename_i hc
        rw [List.mem_singleton] at hx; subst hx
        exact ⟨[], by simp, rfl, hr, by rw [rtp, Rat.mul_one], he, by simpa using hc⟩
    · rw [if_neg he, List.mem_flatMap] at hx
      obtain ⟨⟨o, i⟩, hm, hx⟩ := hx
      split at hx
      · simp at hx
      rename_i hsk
      have hi := zipIdx_idx.1 hm
      have hro := rateO_ok (ho o (idx_mem hi))
      have hnew := mulN_ok hr hro
      have et : timesN w.rate (ratioN o.Num o.Den) = mulN w.rate (rateO o) := timesN_eq hr hro
      rw [et] at hx
      obtain ⟨p, p1, p2, p3, p4, p5⟩ := walkOn_sound ho frm length rounds k _ _ (by
        simp only [List.length_append, List.length_cons, List.length_nil, Int.pow_succ, Nat.zero_add]
        exact hnew) x hx
      have hfrom : o.From = w.to := by
        simp only [walkSkip, Bool.not_eq_true, Bool.or_eq_false_iff, decide_eq_false_iff_not, Decidable.not_not] at hsk
        exact hsk.1
      refine ⟨(i : Int) :: p, by rw [p1]; simp, ⟨o, hi, hfrom, p2⟩, p3, ?_, p5⟩
      rw [p4, toRat_mulN hr.n1 hr.d1 hro.n1 hro.d1, rtp, rtI, hi, Rat.mul_assoc]
theorem walkOn_order (l : List Offer) (frm length : Int) (rounds : Bool) : ∀ (k : Nat) (w : Walk) (s : List Bool),
    (walkOn l frm length rounds k w s).Pairwise fun x y => cmpL x.list y.list ≤ 0
  | 0, w, s => by simp [walkOn]
  | k + 1, w, s => by
    rw [walkOn]
    by_cases he : (w.list.length : Int) = length
    · rw [if_pos he]
      split <;> simp
    · rw [if_neg he, List.pairwise_flatMap]
      refine ⟨fun oi _ => ?_, ?_⟩
      · split
        · simp
        · exact walkOn_order l frm length rounds k _ _
      · have hp : l.zipIdx.Pairwise fun a b => a.2 < b.2 := by
          have := List.pairwise_lt_range' (s := 0) (n := l.length)
          rw [List.pairwise_iff_getElem]
          intro i j hi hj hij
          simp
          exact hij
        refine hp.imp fun {a b} hab x hx y hy => ?_
        split at hx
        · simp at hx
        split at hy
        · simp at hy
        have pre : ∀ (k : Nat) (w : Walk) (s : List Bool), ∀ x ∈ walkOn l frm length rounds k w s, ∃ p, x.list = w.list ++ p := by
          intro k
          induction k with
          | zero => intro w s x hx; simp [walkOn] at hx
          | succ k ih =>
            intro w s x hx
            rw [walkOn] at hx
            by_cases he : (w.list.length : Int) = length
            · rw [if_pos he] at hx
              split at hx
              · simp at hx
              · rw [List.mem_singleton] at hx; subst hx; exact ⟨[], by simp⟩
            · rw [if_neg he, List.mem_flatMap] at hx
              obtain ⟨⟨o, i⟩, hm, hx⟩ := hx
              split at hx
              · simp at hx
              obtain ⟨p, hp⟩ := ih _ _ x hx
              exact ⟨(i : Int) :: p, by rw [hp]; simp⟩
        obtain ⟨p, hp1⟩ := pre _ _ _ x hx
        obtain ⟨q, hq1⟩ := pre _ _ _ y hy
        rw [hp1, hq1]
        dsimp only
        rw [List.append_assoc, List.append_assoc, cmpL_app]
        simp only [List.cons_append, List.nil_append, cmpL]
        rw [if_pos (by omega)]
        decide
def Free (l : List Offer) (rounds : Bool) (frm : Int) : List Int → Int → List Int → Prop
  | _, _, [] => True
  | S, v, i :: p => ∀ o, idx l i = some o → (o.To ∉ v :: S ∨ (rounds = true ∧ p = [] ∧ o.To = frm)) ∧ Free l rounds frm (v :: S) o.To p
def SeenIs (n : Int) (s : List Bool) (S : List Int) : Prop := (s.length : Int) = n ∧ ∀ v : Int, 0 ≤ v → v < n → (s.getD v.toNat false = true ↔ v ∈ S)
theorem seen_set {n : Int} {s : List Bool} {S : List Int} (h : SeenIs n s S) {v : Int} (hv : 0 ≤ v ∧ v < n) : SeenIs n (s.set v.toNat true) (v :: S) := by
  refine ⟨by rw [List.length_set]; exact h.1, fun u h0 h1 => ?_⟩
  have hl := h.1
  by_cases hu : u = v
  · subst hu
    simp only [List.getD, List.mem_cons, true_or, iff_true]
    rw [List.getElem?_set_self (by omega)]; rfl
  · have : (s.set v.toNat true).getD u.toNat false = s.getD u.toNat false := by
      simp only [List.getD]
      rw [List.getElem?_set_ne (by omega)]
    rw [this, h.2 u h0 h1]
    simp [hu]
theorem walkOn_all {n : Int} {l : List Offer} (ho : ∀ o ∈ l, offerOk n o = true) (frm length : Int) (rounds : Bool) : ∀ (p : List Int) (w : Walk) (s : List Bool) (S : List Int) (u : Int), (w.list.length : Int) + p.length = length → Path l w.to p u →
    (decide (u = frm) == rounds) = true → Free l rounds frm S w.to p → SeenIs n s S → (0 ≤ w.to ∧ w.to < n) → ∃ x ∈ walkOn l frm length rounds (p.length + 1) w s, x.list = w.list ++ p ∧ x.to = u
  | [], w, s, S, u, hl, hp, hu, hf, hs, hw => by
    have e : w.to = u := hp
    subst e
    rw [walkOn, if_pos (by simpa using hl), if_neg (by rw [hu]; decide)]
    exact ⟨w, by simp, by simp, rfl⟩
  | i :: p, w, s, S, u, hl, ⟨o, hi, hfr, hp⟩, hu, hf, hs, hw => by
    have hok := ho o (idx_mem hi)
    simp only [offerOk, goodOffer, Bool.and_eq_true, decide_eq_true_eq] at hok
    have h0 := (idx_some hi).1
    obtain ⟨hf1, hf2⟩ := hf o hi
    have hs2 := seen_set hs hw
    have hsk : walkSkip frm length rounds w (s.set w.to.toNat true) o = false := by
      simp only [walkSkip, Bool.or_eq_false_iff, decide_eq_false_iff_not, Decidable.not_not]
      refine ⟨hfr, ?_⟩
      rcases hf1 with h | ⟨h1, h2, h3⟩
      · have : (s.set w.to.toNat true).getD o.To.toNat false = false := by
          rcases Bool.eq_false_or_eq_true ((s.set w.to.toNat true).getD o.To.toNat false) with hb | hb
          · exact absurd ((hs2.2 o.To (by omega) (by omega)).1 hb) h
          · exact hb
        rw [this, Bool.false_and]
      · subst h2
        have e1 : decide ((w.list.length : Int) = length - 1) = true := by
          refine decide_eq_true ?_
          simp at hl; omega
        rw [h1, e1, decide_eq_true h3]; simp
    obtain ⟨x, x1, x2, x3⟩ := walkOn_all ho frm length rounds p ⟨w.list ++ [i], timesN w.rate (ratioN o.Num o.Den), o.To⟩ (s.set w.to.toNat true) (w.to :: S) u (by simp at hl ⊢; omega) hp hu hf2 hs2 ⟨by dsimp only; omega, by dsimp only; omega⟩
    refine ⟨x, ?_, by rw [x2]; simp, x3⟩
    rw [walkOn, if_neg (by simp at hl; omega), List.mem_flatMap]
    refine ⟨(o, i.toNat), zipIdx_idx.2 (by rw [Int.toNat_of_nonneg h0]; exact hi), ?_⟩
    rw [if_neg (by rw [hsk]; decide)]
    have e2 : ((i.toNat : Nat) : Int) = i := Int.toNat_of_nonneg h0
    rw [e2]
    exact x1
theorem free_of {l : List Offer} {rounds : Bool} {frm : Int} : ∀ (p : List Int) (S : List Int) (v u : Int) (a : List Int), Path l frm a v → (∀ y ∈ v :: S, ∃ a1 a2, a = a1 ++ a2 ∧ Path l frm a1 y ∧ Path l y a2 v) → Path l v p u →
    (∀ (a1 c b : List Int) (x : Int), a ++ p = a1 ++ c ++ b → Path l frm a1 x → Path l x c x → Path l x b u → c = [] ∨ (rounds = true ∧ a1 = [] ∧ b = [])) → Free l rounds frm S v p
  | [], _, _, _, _, _, _, _, _ => trivial
  | i :: p, S, v, u, a, ha, hS, ⟨o, hi, hfr, hp⟩, H => by
    intro o' hi'
    rw [hi] at hi'; cases hi'
    have hstep : Path l v [i] o.To := ⟨o, hi, hfr, rfl⟩
    refine ⟨?_, ?_⟩
    · by_cases hin : o.To ∈ v :: S
      · right
        obtain ⟨a1, a2, e, h1, h2⟩ := hS _ hin
        rcases H a1 (a2 ++ [i]) p o.To (by rw [e]; simp) h1 (path_app.2 ⟨v, h2, hstep⟩) hp with h | ⟨h3, h4, h5⟩
        · simp at h
        · subst h4
          exact ⟨h3, h5, h1.symm⟩
      · exact .inl hin
    · refine free_of p (v :: S) o.To u (a ++ [i]) (path_app.2 ⟨v, ha, hstep⟩) (fun y hy => ?_) hp (fun a1 c b x e => H a1 c b x (by rw [← e]; simp))
      rcases List.mem_cons.1 hy with rfl | hy
      · exact ⟨a ++ [i], [], by simp, path_app.2 ⟨v, ha, hstep⟩, rfl⟩
      · obtain ⟨a1, a2, e, h1, h2⟩ := hS y hy
        exact ⟨a1, a2 ++ [i], by rw [e]; simp, h1, path_app.2 ⟨v, h2, hstep⟩⟩
end Go.Pv

set_option linter.unusedSimpArgs false
set_option linter.unusedVariables false
namespace Go.Pv
theorem foldUp_inv {S : Type} {h : Int → S → S} (P : Int → S → Prop) : ∀ {k : Nat} {i : Int} {s : S}, (∀ j s, i ≤ j → j < i + k → P j s → P (j + 1) (h j s)) → P i s → P (i + k) (foldUp h k i s)
  | 0, i, s, _, hp => by rw [show i + ((0 : Nat) : Int) = i by omega]; exact hp
  | k + 1, i, s, hg, hp => by
    have h2 := hg i s (by omega) (by omega) hp
    have := foldUp_inv P (k := k) (i := i + 1) (s := h i s) (fun j s h3 h4 h5 => hg j s (by omega) (by omega) h5) h2
    rw [show i + ((k + 1 : Nat) : Int) = i + 1 + (k : Int) by omega]
    exact this
theorem roundV_cases : ∀ (W : List Walk) (c : List Int), W.Pairwise (fun x y => cmpL x.list y.list ≤ 0) →
    ((∀ x ∈ W, gainsW x = false) ∧ roundV c W = c) ∨ ∃ x ∈ W, gainsW x = true ∧ roundV c W = lesser x.list c ∧ ∀ y ∈ W, gainsW y = true → cmpL x.list y.list ≤ 0
  | [], c, _ => .inl ⟨fun x hx => by simp at hx, rfl⟩
  | x :: W, c, h => by
    rw [List.pairwise_cons] at h
    rcases Bool.eq_false_or_eq_true (gainsW x) with hg | hg
    · right
      refine ⟨x, by simp, hg, by rw [roundV, if_pos hg], fun y hy _ => ?_⟩
      rcases List.mem_cons.1 hy with rfl | hy
      · rw [cmpL_self]; omega
      · exact h.1 y hy
    · have hr : roundV c (x :: W) = roundV c W := by rw [roundV, if_neg (by rw [hg]; decide)]
      rcases roundV_cases W c h.2 with ⟨h1, h2⟩ | ⟨y, h1, h2, h3, h4⟩
      · left
        refine ⟨fun z hz => ?_, by rw [hr, h2]⟩
        rcases List.mem_cons.1 hz with rfl | hz
        · exact hg
        · exact h1 z hz
      · right
        refine ⟨y, List.mem_cons_of_mem _ h1, h2, by rw [hr, h3], fun z hz hzg => ?_⟩
        rcases List.mem_cons.1 hz with rfl | hz
        · rw [hg] at hzg; cases hzg
        · exact h4 z hz hzg
theorem gainsW_iff {x : Walk} {m : Int} (h : RatOk x.rate m) : gainsW x = true ↔ 1 < toRat x.rate := by
  have := toRat_lt (p := ⟨1, 1⟩) (q := x.rate) (by decide) h.d1
  rw [toRat_one] at this
  rw [this]
  simp [gainsW, aboveS]
theorem ratOk_one : RatOk ⟨1, 1⟩ 1 := ⟨by decide, by decide, by decide, by decide, by decide⟩
theorem walksL_sound {m : Market} (hm : MarketOk m) (frm length : Int) (rounds : Bool) : ∀ x ∈ walksL m frm length rounds, Path m.offers frm x.list x.to ∧ RatOk x.rate (50 ^ x.list.length) ∧ toRat x.rate = rtp m.offers x.list ∧ (x.list.length : Int) = length ∧ (decide (x.to = frm) == rounds) = true := by
  intro x hx
  obtain ⟨p, h1, h2, h3, h4, h5⟩ := walkOn_sound hm.good frm length rounds _ ⟨[], ⟨1, 1⟩, frm⟩ _ ratOk_one x hx
  simp only [List.nil_append] at h1
  subst h1
  refine ⟨h2, h3, ?_, h5⟩
  rw [h4, toRat_one, Rat.one_mul]
theorem walksL_order (m : Market) (frm length : Int) (rounds : Bool) : (walksL m frm length rounds).Pairwise fun x y => cmpL x.list y.list ≤ 0 := walkOn_order ..
theorem seen_none (n : Int) (h : 0 ≤ n) : SeenIs n (List.replicate n.toNat false) [] := by
  refine ⟨by simp; omega, fun v h0 h1 => ?_⟩
  simp only [List.getD, List.getElem?_replicate]
  rw [if_pos (by omega)]; simp
theorem walksL_all {m : Market} (hm : MarketOk m) {frm : Int} (hf : 0 ≤ frm ∧ frm < m.n) {rounds : Bool} {p : List Int} {u : Int} (hp : Path m.offers frm p u) (hu : (decide (u = frm) == rounds) = true) (hfr : Free m.offers rounds frm [] frm p) :
    ∃ x ∈ walksL m frm p.length rounds, x.list = p ∧ x.to = u := by
  have hn1 := hm.n1
  obtain ⟨x, h1, h2, h3⟩ := walkOn_all hm.good frm p.length rounds p ⟨[], ⟨1, 1⟩, frm⟩ _ [] u (by simp) hp hu hfr (seen_none m.n (by omega)) hf
  exact ⟨x, by rw [walksL, Int.toNat_natCast]; exact h1, by simpa using h2, h3⟩
theorem rat_one_lt_mul {a b : Rat} (ha : a ≤ 1) (hb : 0 < b) : a * b ≤ b := by
  have := Rat.mul_le_mul_of_nonneg_right ha (Rat.le_of_lt hb)
  rwa [Rat.one_mul] at this
theorem gain_two {n : Int} {l : List Offer} (ho : ∀ o ∈ l, offerOk n o = true) {k : Nat} {p : List Int} (h : Gain l k p) : 2 ≤ k := by
  obtain ⟨s, h1, h2, h3⟩ := h
  match p, h1, h2, h3 with
  | [], _, _, h3 => exact absurd h3 (by rw [rtp]; decide)
  | [i], ⟨o, g1, g2, g3⟩, _, _ =>
    have hok := ho o (idx_mem g1)
    simp only [offerOk, Bool.and_eq_true, decide_eq_true_eq] at hok
    have g3' : o.To = s := g3
    exact absurd (g2.trans g3'.symm) hok.2
  | _ :: _ :: _, _, h2, _ => simp at h2; omega
theorem least_free {n : Int} {l : List Offer} (ho : ∀ o ∈ l, offerOk n o = true) {k : Nat} (hmin : ∀ k' : Nat, 2 ≤ k' → k' < k → ∀ p', ¬ Gain l k' p') {s : Int} {p : List Int} (h : GainAt l k s p) : Free l true s [] s p := by
  obtain ⟨h1, h2, h3⟩ := h
  have hno : ∀ q x, Path l x q x → q.length < k → rtp l q ≤ 1 := fun q x hq hlt => Rat.not_lt.1 fun hg => by
    have hG : Gain l q.length q := ⟨x, hq, rfl, hg⟩
    exact hmin q.length (gain_two ho hG) hlt q hG
  refine free_of p [] s s [] rfl (fun y hy => ?_) h1 (fun a1 c b x e g1 g2 g3 => ?_)
  · simp at hy; subst hy; exact ⟨[], [], rfl, rfl, rfl⟩
  · simp only [List.nil_append] at e
    by_cases hc : c = []
    · exact .inl hc
    by_cases hab : a1 = [] ∧ b = []
    · exact .inr ⟨rfl, hab⟩
    exfalso
    have hl := congrArg List.length e
    simp only [List.length_append] at hl
    have hc0 : 0 < c.length := by
      rcases Nat.eq_zero_or_pos c.length with h | h
      · exact absurd (List.length_eq_zero_iff.1 h) hc
      · exact h
    have hab0 : 0 < a1.length + b.length := by
      rcases Nat.eq_zero_or_pos (a1.length + b.length) with h | h
      · exact absurd ⟨List.length_eq_zero_iff.1 (by omega), List.length_eq_zero_iff.1 (by omega)⟩ hab
      · exact h
    have r1 := hno c x g2 (by omega)
    have r2 := hno (a1 ++ b) s (path_app.2 ⟨x, g1, g3⟩) (by simp; omega)
    rw [e, rtp_app, rtp_app, Rat.mul_comm (rtp l a1), Rat.mul_assoc, ← rtp_app] at h3
    have r3 := rat_one_lt_mul r1 (rtp_pos ho (a1 ++ b))
    exact absurd h3 (Rat.not_lt.2 (Rat.le_trans r3 r2))
theorem roundLen_none {m : Market} (hm : MarketOk m) {k : Nat} (h : ∀ p, ¬ Gain m.offers k p) : roundLen m (k : Int) = [] := by
  have := foldUp_inv (h := fun v c => roundV c (walksL m v (k : Int) true)) (fun _ c => c = ([] : List Int)) (k := m.n.toNat) (i := 0) (s := []) (fun j c _ _ hc => by
    subst hc
    rcases roundV_cases (walksL m j (k : Int) true) [] (walksL_order ..) with ⟨_, h2⟩ | ⟨x, h1, h2, _⟩
    · exact h2
    · obtain ⟨g1, g2, g3, g4, g5⟩ := walksL_sound hm j (k : Int) true x h1
      have hto : x.to = j := by simpa using g5
      rw [hto] at g1
      exact absurd ⟨j, g1, by omega, by rw [← g3]; exact (gainsW_iff g2).1 h2⟩ (h x.list)) rfl
  exact this
theorem roundLen_least {m : Market} (hm : MarketOk m) {k : Nat} (hmin : ∀ k' : Nat, 2 ≤ k' → k' < k → ∀ p', ¬ Gain m.offers k' p') {p : List Int} (hp : Gain m.offers k p) (hle : ∀ p', Gain m.offers k p' → cmpL p p' ≤ 0) : roundLen m (k : Int) = p := by
  have hk2 := gain_two hm.good hp
  obtain ⟨i0, o0, hd0, hi0, hg0⟩ := gain_head (by omega) hp
  have hok := hm.good o0 (idx_mem hi0)
  simp only [offerOk, goodOffer, Bool.and_eq_true, decide_eq_true_eq] at hok
  have hpne : p.isEmpty = false := by
    cases p with
    | nil => cases hd0
    | cons a p => rfl
  have hx : ∀ j x, x ∈ walksL m j (k : Int) true → gainsW x = true → Gain m.offers k x.list := fun j x h1 h2 => by
    obtain ⟨g1, g2, g3, g4, g5⟩ := walksL_sound hm j (k : Int) true x h1
    have hto : x.to = j := by simpa using g5
    rw [hto] at g1
    exact ⟨j, g1, by omega, by rw [← g3]; exact (gainsW_iff g2).1 h2⟩
  have key := foldUp_inv (h := fun v c => roundV c (walksL m v (k : Int) true)) (fun j c => (c = ([] : List Int) ∨ Gain m.offers k c) ∧ (o0.From < j → c = p)) (k := m.n.toNat) (i := 0) (s := []) (fun j c h0 h1 ⟨hc1, hc2⟩ => by
    have hles : ∀ x, x ∈ walksL m j (k : Int) true → gainsW x = true → (lesser x.list c = [] ∨ Gain m.offers k (lesser x.list c)) := fun x h1 h2 => by
      unfold lesser
      split
      · exact .inr (hx j x h1 h2)
      · exact hc1
    have hstay : c = p → ∀ x, x ∈ walksL m j (k : Int) true → gainsW x = true → lesser x.list c = p := fun hcp x h1 h2 => by
      subst hcp
      unfold lesser
      have h3 := hle _ (hx j x h1 h2)
      by_cases h4 : cmpL x.list c < 0
      · have := cmpL_anti (a := x.list) (b := c) (by omega) h3
        rw [this, cmpL_self] at h4; omega
      · rw [if_neg (by rw [hpne, decide_eq_false h4]; decide)]
    rcases roundV_cases (walksL m j (k : Int) true) c (walksL_order ..) with ⟨g1, g2⟩ | ⟨x, g1, g2, g3, g4⟩
    · rw [g2]
      refine ⟨hc1, fun hj => ?_⟩
      rcases Int.lt_or_le o0.From j with h | h
      · exact hc2 h
      · exfalso
        have hj' : j = o0.From := by omega
        obtain ⟨x, x1, x2, x3⟩ := walksL_all hm (frm := o0.From) ⟨by omega, by omega⟩ hg0.1 (by simp) (least_free hm.good hmin hg0)
        rw [hg0.2.1, ← hj'] at x1
        obtain ⟨_, r2, r3, _⟩ := walksL_sound hm j (k : Int) true x x1
        have := g1 x x1
        rw [(gainsW_iff r2).2 (by rw [r3, x2]; exact hg0.2.2)] at this
        cases this
    · rw [g3]
      refine ⟨hles x g1 g2, fun hj => ?_⟩
      rcases Int.lt_or_le o0.From j with h | h
      · exact hstay (hc2 h) x g1 g2
      · have hj' : j = o0.From := by omega
        obtain ⟨y, x1, x2, x3⟩ := walksL_all hm (frm := o0.From) ⟨by omega, by omega⟩ hg0.1 (by simp) (least_free hm.good hmin hg0)
        rw [hg0.2.1, ← hj'] at x1
        obtain ⟨_, r2, r3, _⟩ := walksL_sound hm j (k : Int) true y x1
        have hyg := (gainsW_iff r2).2 (by rw [r3, x2]; exact hg0.2.2)
        have h5 := g4 y x1 hyg
        rw [x2] at h5
        have h6 := cmpL_anti h5 (hle _ (hx j x g1 g2))
        rw [h6]
        unfold lesser
        rcases hc1 with h | h
        · subst h; rfl
        · by_cases h7 : cmpL p c < 0
          · rw [if_pos (by rw [decide_eq_true h7]; simp)]
          · have h8 := hle c h
            have h9 : cmpL p c = 0 := by omega
            rw [cmpL_zero h9]; simp) ⟨.inl rfl, fun h => by omega⟩
  have hn1 := hm.n1
  exact key.2 (by omega)
theorem roundFrom_eq {m : Market} (hm : MarketOk m) : ∀ (j k : Nat), j = m.n.toNat + 1 - k → 2 ≤ k → (∀ k' : Nat, 2 ≤ k' → k' < k → ∀ p', ¬ Gain m.offers k' p') →
    (∀ k' : Nat, k ≤ k' → (k' : Int) ≤ m.n → (∀ p, ¬ Gain m.offers k' p)) → roundFrom m j (k : Int) = []
  | 0, k, _, _, _, _ => rfl
  | j + 1, k, hj, hk, hmin, h => by
    rw [roundFrom, roundLen_none hm (h k (Nat.le_refl _) (by omega))]
    simp only [List.isEmpty_nil, if_true]
    exact roundFrom_eq hm j (k + 1) (by omega) (by omega) (fun k' h1 h2 => by
      rcases Nat.lt_or_ge k' k with h3 | h3
      · exact hmin k' h1 h3
      · exact h k' h3 (by omega)) (fun k' h1 h2 => h k' (by omega) h2)
theorem roundFrom_least {m : Market} (hm : MarketOk m) {k0 : Nat} (hk0 : (k0 : Int) ≤ m.n) (hmin : ∀ k' : Nat, 2 ≤ k' → k' < k0 → ∀ p', ¬ Gain m.offers k' p') {p : List Int} (hp : Gain m.offers k0 p) (hle : ∀ p', Gain m.offers k0 p' → cmpL p p' ≤ 0) :
    ∀ (j k : Nat), j = m.n.toNat + 1 - k → 2 ≤ k → k ≤ k0 → roundFrom m j (k : Int) = p
  | 0, k, hj, hk, hkk => by omega
  | j + 1, k, hj, hk, hkk => by
    rw [roundFrom]
    rcases Nat.lt_or_ge k k0 with h | h
    · rw [roundLen_none hm (hmin k hk h)]
      simp only [List.isEmpty_nil, if_true]
      exact roundFrom_least hm hk0 hmin hp hle j (k + 1) (by omega) (by omega) (by omega)
    · have : k = k0 := by omega
      subst this
      rw [roundLen_least hm hmin hp hle]
      have hpne : p.isEmpty = false := by
        obtain ⟨i0, o0, hd0, _⟩ := gain_head (by omega) hp
        cases p with
        | nil => cases hd0
        | cons a p => rfl
      rw [hpne]; rfl
theorem roundS_eq {n : Int} {l : List Offer} (hm : MarketOk ⟨n, l⟩) : ∃ b, m_cocketref01_gaining n l = some (roundS ⟨n, l⟩, b) ∧ b = !(roundS ⟨n, l⟩).isEmpty ∧ (roundS ⟨n, l⟩).length ≤ 6 ∧
    ((roundS ⟨n, l⟩).isEmpty = true → ∀ k : Nat, 2 ≤ k → (k : Int) ≤ n → ∀ p, ¬ Gain l k p) := by
  have hn1 := hm.n1
  have hn2 := hm.n2
  dsimp only at hn1 hn2
  rcases gaining_eq hm with ⟨h1, h2⟩ | ⟨k, p, h1, h2, h3, h4, h5, h6⟩
  · have hr : roundS ⟨n, l⟩ = [] := by
      have := roundFrom_eq hm (n.toNat + 1 - 2) 2 rfl (by decide) (fun k' a b => by omega) h2
      rw [roundS]
      rw [show (n - 1).toNat = n.toNat + 1 - 2 by omega]
      exact this
    exact ⟨false, by rw [hr]; exact h1, by rw [hr]; rfl, by rw [hr]; simp, fun _ => h2⟩
  · have hr : roundS ⟨n, l⟩ = p := by
      have := roundFrom_least hm h3 h6 h4 h5 (n.toNat + 1 - 2) 2 rfl (by decide) h2
      rw [roundS]
      rw [show (n - 1).toNat = n.toNat + 1 - 2 by omega]
      exact this
    have hpne : p.isEmpty = false := by
      obtain ⟨i0, o0, hd0, _⟩ := gain_head (by omega) h4
      cases p with
      | nil => cases hd0
      | cons a p => rfl
    refine ⟨true, by rw [hr]; exact h1, by rw [hr, hpne]; rfl, ?_, fun h => by rw [hr, hpne] at h; cases h⟩
    rw [hr]
    obtain ⟨s, _, g2, _⟩ := h4
    omega
end Go.Pv

set_option linter.unusedSimpArgs false
set_option linter.unusedVariables false
namespace Go.Pv
theorem pigeon : ∀ (n : Nat) (L : List Int), L.Nodup → (∀ x ∈ L, 0 ≤ x ∧ x < n) → L.length ≤ n
  | 0, L, _, h => by
    cases L with
    | nil => simp
    | cons x L => have := h x (by simp); omega
  | n + 1, L, hd, h => by
    by_cases hm : (n : Int) ∈ L
    · have h1 := pigeon n (L.erase (n : Int)) (hd.erase _) (fun x hx => by
        have h2 := (List.Nodup.mem_erase_iff hd).1 hx
        have := h x h2.2
        have := h2.1
        omega)
      rw [List.length_erase_of_mem hm] at h1
      omega
    · have := pigeon n L hd (fun x hx => by
        have h2 := h x hx
        have : x ≠ (n : Int) := fun e => hm (e ▸ hx)
        omega)
      omega
theorem free_len {n : Int} {l : List Offer} (ho : ∀ o ∈ l, offerOk n o = true) {rounds : Bool} {frm : Int} : ∀ (p : List Int) (S : List Int) (v u : Int), Path l v p u → Free l rounds frm S v p → (v :: S).Nodup → (∀ x ∈ v :: S, 0 ≤ x ∧ x < n) → 0 ≤ n →
    (S.length : Int) + p.length + (if rounds then 0 else 1) ≤ n
  | [], S, v, u, _, _, hd, hr, hn => by
    have := pigeon n.toNat (v :: S) hd (fun x hx => by have := hr x hx; omega)
    simp at this ⊢
    split <;> omega
  | i :: p, S, v, u, ⟨o, hi, _, hp⟩, hf, hd, hr, hn => by
    have hok := ho o (idx_mem hi)
    simp only [offerOk, goodOffer, Bool.and_eq_true, decide_eq_true_eq] at hok
    obtain ⟨h1, h2⟩ := hf o hi
    rcases h1 with h1 | ⟨h1, h3, _⟩
    · have := free_len ho p (v :: S) o.To u hp h2 (List.nodup_cons.2 ⟨h1, hd⟩) (fun x hx => by
        rcases List.mem_cons.1 hx with rfl | hx
        · omega
        · exact hr x hx) hn
      simp at this ⊢
      omega
    · subst h3
      have := pigeon n.toNat (v :: S) hd (fun x hx => by have := hr x hx; omega)
      simp [h1] at this ⊢
      omega
theorem no_gain {n : Int} {l : List Offer} (hm : MarketOk ⟨n, l⟩) (h : ∀ k : Nat, 2 ≤ k → (k : Int) ≤ n → ∀ p, ¬ Gain l k p) : ∀ (k : Nat) (p : List Int), ¬ Gain l k p := by
  have hn1 := hm.n1
  dsimp only at hn1
  intro k
  induction k using Nat.strongRecOn with
  | _ k ih =>
    rintro p ⟨s, hg⟩
    have h2 := gain_two hm.good ⟨s, hg⟩
    have hf := least_free hm.good (fun k' _ h1 p' => ih k' h1 p') hg
    have hs : 0 ≤ s ∧ s < n := by
      obtain ⟨i, o, g1, g2, g3⟩ := gain_head (by omega) ⟨s, hg⟩
      cases p with
      | nil => cases g1
      | cons a p =>
        simp only [List.head?_cons, Option.some.injEq] at g1
        subst g1
        obtain ⟨o', e1, e2, _⟩ := hg.1
        have hok := hm.good o' (idx_mem e1)
        simp only [offerOk, goodOffer, Bool.and_eq_true, decide_eq_true_eq] at hok
        omega
    have := free_len (n := n) hm.good p [] s s hg.1 hf (by simp) (fun x hx => by simp at hx; omega) (by omega)
    simp at this
    exact h k h2 (by have := hg.2.1; omega) p ⟨s, hg⟩
theorem shorten {n : Int} {l : List Offer} (ho : ∀ o ∈ l, offerOk n o = true) (h : ∀ (k : Nat) (p : List Int), ¬ Gain l k p) : ∀ (k : Nat) (p : List Int) (v u : Int), p.length = k → Path l v p u → ∃ q, Path l v q u ∧ Free l false v [] v q ∧ q.length ≤ k ∧ rtp l p ≤ rtp l q := by
  intro k
  induction k using Nat.strongRecOn with
  | _ k ih =>
    intro p v u hk hp
    by_cases hf : Free l false v [] v p
    · exact ⟨p, hp, hf, by omega, Rat.le_refl⟩
    · have hex : ∃ (a1 c b : List Int) (x : Int), p = a1 ++ c ++ b ∧ Path l v a1 x ∧ Path l x c x ∧ Path l x b u ∧ c ≠ [] := by
        refine Classical.byContradiction fun hne => hf ?_
        refine free_of p [] v u [] rfl (fun y hy => ?_) hp (fun a1 c b x e g1 g2 g3 => ?_)
        · simp at hy; subst hy; exact ⟨[], [], rfl, rfl, rfl⟩
        · left
          refine Classical.byContradiction fun hc => hne ⟨a1, c, b, x, by simpa using e, g1, g2, g3, hc⟩
      obtain ⟨a1, c, b, x, e, g1, g2, g3, hc⟩ := hex
      have hc0 : 0 < c.length := by
        rcases Nat.eq_zero_or_pos c.length with h | h
        · exact absurd (List.length_eq_zero_iff.1 h) hc
        · exact h
      have hl := congrArg List.length e
      simp only [List.length_append] at hl
      obtain ⟨q, q1, q2, q3, q4⟩ := ih (a1 ++ b).length (by simp; omega) (a1 ++ b) v u rfl (path_app.2 ⟨x, g1, g3⟩)
      refine ⟨q, q1, q2, by simp at q3; omega, Rat.le_trans ?_ q4⟩
      have hle : rtp l c ≤ 1 := Rat.not_lt.1 fun hg => h c.length c ⟨x, g2, rfl, hg⟩
      rw [e, rtp_app, rtp_app, Rat.mul_comm (rtp l a1), Rat.mul_assoc, ← rtp_app]
      exact rat_one_lt_mul hle (rtp_pos ho (a1 ++ b))
end Go.Pv

set_option linter.unusedSimpArgs false
set_option linter.unusedVariables false
namespace Go.Pv
def concatUp {α : Type} (W : Int → List α) : Nat → Int → List α
  | 0, _ => []
  | k + 1, i => W i ++ concatUp W k (i + 1)
theorem foldUp_foldl {α S : Type} {W : Int → List α} {f : S → α → S} : ∀ (k : Nat) (i : Int) (s : S), foldUp (fun i s => (W i).foldl f s) k i s = (concatUp W k i).foldl f s
  | 0, _, _ => rfl
  | k + 1, i, s => by rw [foldUp, concatUp, List.foldl_append, foldUp_foldl k (i + 1)]
theorem mem_concatUp {α : Type} {W : Int → List α} {x : α} : ∀ {k : Nat} {i : Int}, x ∈ concatUp W k i ↔ ∃ j : Int, i ≤ j ∧ j < i + k ∧ x ∈ W j
  | 0, i => by simp [concatUp]; intro j h1 h2; omega
  | k + 1, i => by
    rw [concatUp, List.mem_append, mem_concatUp]
    constructor
    · rintro (h | ⟨j, h1, h2, h3⟩)
      · exact ⟨i, by omega, by omega, h⟩
      · exact ⟨j, by omega, by omega, h3⟩
    · rintro ⟨j, h1, h2, h3⟩
      rcases Int.lt_or_le i j with h | h
      · exact .inr ⟨j, by omega, by omega, h3⟩
      · have : j = i := by omega
        subst this; exact .inl h3
def ordW (x y : Walk) : Prop := x.list.length < y.list.length ∨ (x.list.length = y.list.length ∧ cmpL x.list y.list ≤ 0)
def BestSo (to : Int) (W : List Walk) (s : Walk × Bool) : Prop :=
  (s.2 = false → ∀ y ∈ W, y.to ≠ to) ∧ (s.2 = true → s.1 ∈ W ∧ s.1.to = to ∧ ∀ y ∈ W, y.to = to → toRat y.rate ≤ toRat s.1.rate ∧ (toRat y.rate = toRat s.1.rate → ordW s.1 y))
theorem aboveS_iff {p q : Ratio} (hp : 1 ≤ p.Den) (hq : 1 ≤ q.Den) : aboveS p q = true ↔ toRat q < toRat p := by
  rw [toRat_lt hq hp]; simp [aboveS]
theorem bestSo_step {to : Int} {W : List Walk} {s : Walk × Bool} {x : Walk} (hd : ∀ y ∈ W ++ [x], 1 ≤ y.rate.Den) (ho : ∀ y ∈ W, ordW y x) (h : BestSo to W s) : BestSo to (W ++ [x]) (bestStep to s x) := by
  obtain ⟨w, b⟩ := s
  have hrefl : ∀ z : Walk, ordW z z := fun z => .inr ⟨rfl, by rw [cmpL_self]; omega⟩
  unfold bestStep
  by_cases hx : x.to = to
  · cases b with
    | false =>
      have h1 := h.1 rfl
      rw [if_pos (by simp [hx])]
      refine ⟨fun h => (by cases h), fun _ => ⟨by simp, hx, fun y hy hyt => ?_⟩⟩
      rcases List.mem_append.1 hy with hy | hy
      · exact absurd hyt (h1 y hy)
      · simp at hy; subst hy; exact ⟨Rat.le_refl, fun _ => hrefl _⟩
    | true =>
      obtain ⟨h1, h2, h3⟩ := h.2 rfl
      dsimp only at h1 h2 h3
      have hab := aboveS_iff (p := x.rate) (q := w.rate) (hd x (by simp)) (hd w (by simp [h1]))
      by_cases hc : toRat w.rate < toRat x.rate
      · rw [if_pos (by simp [hx, hab.2 hc])]
        refine ⟨fun h => (by cases h), fun _ => ⟨by simp, hx, fun y hy hyt => ?_⟩⟩
        dsimp only
        rcases List.mem_append.1 hy with hy | hy
        · have h4 := (h3 y hy hyt).1
          have h5 : toRat y.rate < toRat x.rate := Rat.not_le.1 fun h => Rat.not_le.2 hc (Rat.le_trans h h4)
          exact ⟨Rat.le_of_lt h5, fun e => absurd h5 (by rw [e]; exact Rat.lt_irrefl)⟩
        · simp at hy; subst hy; exact ⟨Rat.le_refl, fun _ => hrefl _⟩
      · have hab2 : aboveS x.rate w.rate = false := by
          rcases Bool.eq_false_or_eq_true (aboveS x.rate w.rate) with h | h
          · exact absurd (hab.1 h) hc
          · exact h
        rw [if_neg (by simp [hab2])]
        refine ⟨fun h => (by cases h), fun _ => ⟨by simp [h1], h2, fun y hy hyt => ?_⟩⟩
        dsimp only
        rcases List.mem_append.1 hy with hy | hy
        · exact h3 y hy hyt
        · simp at hy; subst hy
          exact ⟨Rat.not_lt.1 hc, fun _ => ho w h1⟩
  · rw [if_neg (by simp [hx])]
    refine ⟨fun hb y hy => ?_, fun hb => ?_⟩
    · rcases List.mem_append.1 hy with hy | hy
      · exact h.1 hb y hy
      · simp at hy; subst hy; exact hx
    · obtain ⟨h1, h2, h3⟩ := h.2 hb
      refine ⟨by simp [h1], h2, fun y hy hyt => ?_⟩
      rcases List.mem_append.1 hy with hy | hy
      · exact h3 y hy hyt
      · simp at hy; subst hy; exact absurd hyt hx
theorem bestSo_fold {to : Int} : ∀ (W V : List Walk) (s : Walk × Bool), (∀ y ∈ W ++ V, 1 ≤ y.rate.Den) → (W ++ V).Pairwise ordW → BestSo to W s → BestSo to (W ++ V) (V.foldl (bestStep to) s)
  | W, [], s, _, _, h => by simpa using h
  | W, x :: V, s, hd, hp, h => by
    have e : W ++ x :: V = (W ++ [x]) ++ V := by simp
    rw [e] at hd hp ⊢
    refine bestSo_fold (W ++ [x]) V _ hd hp (bestSo_step (fun y hy => hd y (by simp at hy ⊢; rcases hy with h | h <;> simp [h])) (fun y hy => ?_) h)
    rw [List.pairwise_append] at hp
    have := hp.1
    rw [List.pairwise_append] at this
    exact this.2.2 y hy x (by simp)
end Go.Pv

set_option linter.unusedSimpArgs false
set_option linter.unusedVariables false
namespace Go.Pv
def allW (m : Market) (frm : Int) : List Walk := concatUp (fun k => walksL m frm k false) (m.n - 1).toNat 1
theorem concatUp_pairwise {m : Market} (hm : MarketOk m) (frm : Int) : ∀ (k : Nat) (i : Int), (concatUp (fun k => walksL m frm k false) k i).Pairwise ordW
  | 0, _ => by simp [concatUp]
  | k + 1, i => by
    rw [concatUp, List.pairwise_append]
    refine ⟨?_, concatUp_pairwise hm frm k (i + 1), fun x hx y hy => ?_⟩
    · refine (walksL_order m frm i false).imp_of_mem fun {a b} ha hb hab => ?_
      have h1 := (walksL_sound hm frm i false a ha).2.2.2.1
      have h2 := (walksL_sound hm frm i false b hb).2.2.2.1
      exact .inr ⟨by omega, hab⟩
    · obtain ⟨j, h1, h2, h3⟩ := mem_concatUp.1 hy
      have h4 := (walksL_sound hm frm i false x hx).2.2.2.1
      have h5 := (walksL_sound hm frm j false y h3).2.2.2.1
      exact .inl (by omega)
theorem allW_sound {m : Market} (hm : MarketOk m) (frm : Int) : ∀ x ∈ allW m frm, Path m.offers frm x.list x.to ∧ RatOk x.rate (50 ^ 5) ∧ toRat x.rate = rtp m.offers x.list ∧ 1 ≤ x.list.length ∧ (x.list.length : Int) < m.n := by
  intro x hx
  have hn1 := hm.n1
  have hn2 := hm.n2
  obtain ⟨j, h1, h2, h3⟩ := mem_concatUp.1 hx
  obtain ⟨g1, g2, g3, g4, g5⟩ := walksL_sound hm frm j false x h3
  exact ⟨g1, g2.le (pow50_le (by omega)), g3, by omega, by omega⟩
theorem allW_all {m : Market} (hm : MarketOk m) {frm : Int} (hf : 0 ≤ frm ∧ frm < m.n) {p : List Int} {u : Int} (hp : Path m.offers frm p u) (hfr : Free m.offers false frm [] frm p) (hne : frm ≠ u) : ∃ x ∈ allW m frm, x.list = p ∧ x.to = u := by
  have hn1 := hm.n1
  have hlen := free_len (n := m.n) hm.good p [] frm u hp hfr (by simp) (fun x hx => by simp at hx; omega) (by omega)
  simp at hlen
  have hp0 : 1 ≤ p.length := by
    cases p with
    | nil => exact absurd hp hne
    | cons i p => simp
  obtain ⟨x, x1, x2, x3⟩ := walksL_all hm hf hp (rounds := false) (by simp; exact fun h => hne h.symm) hfr
  exact ⟨x, mem_concatUp.2 ⟨p.length, by omega, by omega, x1⟩, x2, x3⟩
theorem bestS_so {m : Market} (hm : MarketOk m) {frm to : Int} (hne : frm ≠ to) : BestSo to (allW m frm) (bestS m frm to) := by
  rw [bestS, if_neg hne, foldUp_foldl]
  have := bestSo_fold (to := to) [] (allW m frm) (⟨[], ⟨0, 0⟩, 0⟩, false) (fun y hy => (allW_sound hm frm y (by simpa using hy)).2.1.d1) (by rw [List.nil_append]; exact concatUp_pairwise hm frm _ _) ⟨fun _ y hy => by simp at hy, fun h => by cases h⟩
  rw [List.nil_append] at this; exact this
def Greatest (l : List Offer) (v u : Int) (r : Ratio) : Prop := (∃ p, Path l v p u ∧ rtp l p = toRat r) ∧ ∀ p, Path l v p u → rtp l p ≤ toRat r
theorem best_rate {n : Int} {l : List Offer} (hm : MarketOk ⟨n, l⟩) (h : ∀ (k : Nat) (p : List Int), ¬ Gain l k p) {frm to : Int} (hf : 0 ≤ frm ∧ frm < n) (hne : frm ≠ to) :
    ((bestS ⟨n, l⟩ frm to).2 = true → RatOk (bestS ⟨n, l⟩ frm to).1.rate (50 ^ 5) ∧ Greatest l frm to (bestS ⟨n, l⟩ frm to).1.rate) ∧
    ((bestS ⟨n, l⟩ frm to).2 = false → ∀ p, ¬ Path l frm p to) := by
  have hb := bestS_so hm (frm := frm) hne
  refine ⟨fun ht => ?_, fun hfl p hp => ?_⟩
  · obtain ⟨h1, h2, h3⟩ := hb.2 ht
    obtain ⟨g1, g2, g3, g4, g5⟩ := allW_sound hm frm _ h1
    refine ⟨g2, ⟨_, by rw [h2] at g1; exact g1, g3.symm⟩, fun p hp => ?_⟩
    obtain ⟨q, q1, q2, q3, q4⟩ := shorten hm.good h p.length p frm to rfl hp
    obtain ⟨x, x1, x2, x3⟩ := allW_all hm hf q1 q2 hne
    have h4 := (h3 x x1 x3).1
    have h5 := (allW_sound hm frm x x1).2.2.1
    rw [x2] at h5
    exact Rat.le_trans q4 (by rw [← h5]; exact h4)
  · obtain ⟨q, q1, q2, q3, q4⟩ := shorten hm.good h p.length p frm to rfl hp
    obtain ⟨x, x1, x2, x3⟩ := allW_all hm hf q1 q2 hne
    exact hb.1 hfl x x1 x3
end Go.Pv

set_option linter.unusedSimpArgs false
set_option linter.unusedVariables false
namespace Go.Pv
def betterB (c : Option Ratio) (r : Ratio) : Bool := match c with
  | none => true
  | some x => decide (toRat x < toRat r)
theorem better_eq' {e : Reach} {c : Option Ratio} {q : Q} {r : Ratio} {m : Int} (he : IsR e c) (hq : IsQ q r) (hc : ∀ x, c = some x → RatOk x m) (hr : RatOk r m) (hm : m < 10000 ^ 40) : m_cocketref01_better e q = some (betterB c r) := by
  rw [better_eq he hq hc hr hm]
  cases c <;> rfl
end Go.Pv

set_option linter.unusedSimpArgs false
set_option linter.unusedVariables false
namespace Go.Pv
end Go.Pv

set_option linter.unusedSimpArgs false
set_option linter.unusedVariables false
namespace Go.Pv
end Go.Pv

set_option linter.unusedSimpArgs false
set_option linter.unusedVariables false
namespace Go.Pv
theorem closed_le {l : List Offer} (h : ∀ (k : Nat) (p : List Int), ¬ Gain l k p) {v : Int} {p : List Int} (hp : Path l v p v) : rtp l p ≤ 1 := Rat.not_lt.1 fun hg => h p.length p ⟨v, hp, rfl, hg⟩
theorem one_ok : RatOk ⟨1, 1⟩ (50 ^ 5) := ratOk_one.le (by decide)
end Go.Pv

set_option linter.unusedSimpArgs false
set_option linter.unusedVariables false
namespace Go.Pv
end Go.Pv

set_option linter.unusedSimpArgs false
set_option linter.unusedVariables false
namespace Go.Pv
def TopAt (l : List Offer) (to frm : Int) (N many : Nat) (g : Option Ratio) : Prop :=
  match g with
  | none => ∀ k < N, bestK l to k frm = none
  | some r => many < N ∧ bestK l to many frm = some r ∧ ∀ k < N, ∀ x, bestK l to k frm = some x → toRat x ≤ toRat r ∧ (k < many → toRat x < toRat r)
theorem p505 : (50 : Int) ^ 5 = 312500000 := by decide
theorem p40 : (10000 : Int) ^ 12 ≤ 10000 ^ 40 := pow_le_pow (by decide)
theorem p12 : (10000 : Int) ^ 12 = 1000000000000000000000000000000000000000000000000 := by decide
theorem bestK_ok5 {n : Int} {l : List Offer} (hm : MarketOk ⟨n, l⟩) {to v : Int} {k : Nat} (hk : k ≤ 5) {r : Ratio} (h : bestK l to k v = some r) : RatOk r 312500000 := by
  have := (bestK_ok hm.good to k v r h).le (pow50_le hk)
  rw [p505] at this; exact this
theorem refBest_l1 {n : Int} {l : List Offer} (hm : MarketOk ⟨n, l⟩) {R : List (List Reach)} {to frm : Int} (hf : 0 ≤ frm ∧ frm < n) (hR : ∀ i : Nat, i < n.toNat → ∃ r, idx R (i : Int) = some r ∧ RL n r (bestK l to i)) :
    ∀ (j k many : Nat) (c : Reach) (g : Option Ratio), j = n.toNat - k → (k : Int) ≤ n → IsR c g → TopAt l to frm k many g →
    ∃ (many' : Nat) (c' : Reach) (g' : Option Ratio), iter (m_cocketref01_best_l1 n frm R) ((many : Int), (k : Int), c) = some ((many' : Int), c') ∧ IsR c' g' ∧ TopAt l to frm n.toNat many' g'
  | 0, k, many, c, g, hj, hk, hc, ht => by
    have e : k = n.toNat := by omega
    subst e
    refine ⟨many, c, g, iter_done ?_, hc, ht⟩
    rw [m_cocketref01_best_l1, decide_eq_false (by omega)]; rfl
  | j + 1, k, many, c, g, hj, hk, hc, ht => by
    have hn2 := hm.n2
    dsimp only at hn2
    obtain ⟨r, r1, r2⟩ := hR k (by omega)
    obtain ⟨e, e1, e2⟩ := r2.2 frm hf.1 hf.2
    have hwi : IntKind.i64.wrap ((k : Int) + 1) = ((k + 1 : Nat) : Int) := by rw [wrap_i64_eq (by omega)]; omega
    have hgo : ∀ x, g = some x → RatOk x 312500000 := fun x hx => by
      subst hx
      exact bestK_ok5 hm (by have := ht.1; omega) ht.2.1
    have goOn : ∀ (many1 : Nat) (c1 : Reach) (g1 : Option Ratio), IsR c1 g1 → TopAt l to frm (k + 1) many1 g1 → m_cocketref01_best_l1 n frm R ((many : Int), (k : Int), c) = some (.inl ((many1 : Int), ((k + 1 : Nat) : Int), c1)) →
        ∃ (many' : Nat) (c' : Reach) (g' : Option Ratio), iter (m_cocketref01_best_l1 n frm R) ((many : Int), (k : Int), c) = some ((many' : Int), c') ∧ IsR c' g' ∧ TopAt l to frm n.toNat many' g' := fun many1 c1 g1 h1 h2 h3 => by
      obtain ⟨a, b, d, f1, f2, f3⟩ := refBest_l1 hm hf hR j (k + 1) many1 c1 g1 (by omega) (by omega) h1 h2
      exact ⟨a, b, d, iter_step h3 f1, f2, f3⟩
    cases hb : bestK l to k frm with
    | none =>
      rw [hb] at e2
      have hIs : e.Is = false := e2
      refine goOn many c g hc ?_ ?_
      · cases g with
        | none =>
          intro k' hk'
          rcases Nat.lt_or_ge k' k with h | h
          · exact ht k' h
          · have : k' = k := by omega
            rw [this]; exact hb
        | some r0 =>
          refine ⟨by have := ht.1; omega, ht.2.1, fun k' hk' x hx => ?_⟩
          rcases Nat.lt_or_ge k' k with h | h
          · exact ht.2.2 k' h x hx
          · have : k' = k := by omega
            rw [this, hb] at hx; cases hx
      · rw [m_cocketref01_best_l1, decide_eq_true (by omega)]
        simp only [cond_true, cond_false, r1, e1, Option.bind_some, hIs, hwi]
    | some x =>
      rw [hb] at e2
      obtain ⟨hIs, hQ⟩ : e.Is = true ∧ IsQ e.Rate x := e2
      have hx5 := bestK_ok5 hm (by omega) hb
      have hbet := better_eq' hc hQ hgo hx5 (by have := p40; have := p12; omega)
      rcases Bool.eq_false_or_eq_true (betterB g x) with hb1 | hb1
      · refine goOn k e (some x) ⟨hIs, hQ⟩ ⟨by omega, hb, fun k' hk' y hy => ?_⟩ ?_
        · rcases Nat.lt_or_ge k' k with h | h
          · have hlt : toRat y < toRat x := by
              cases g with
              | none => rw [ht k' h] at hy; cases hy
              | some r0 =>
                have h1 := (ht.2.2 k' h y hy).1
                have h2 : toRat r0 < toRat x := by simpa [betterB] using hb1
                exact Rat.not_le.1 fun h3 => Rat.not_le.2 h2 (Rat.le_trans h3 h1)
            exact ⟨Rat.le_of_lt hlt, fun _ => hlt⟩
          · have : k' = k := by omega
            rw [this, hb] at hy; cases hy
            exact ⟨Rat.le_refl, fun h => absurd h (by omega)⟩
        · rw [m_cocketref01_best_l1, decide_eq_true (by omega)]
          simp only [cond_true, cond_false, r1, e1, Option.bind_some, hIs, hbet, hb1, hwi]
      · refine goOn many c g hc ?_ ?_
        · cases g with
          | none => cases hb1
          | some r0 =>
            have h2 : ¬ toRat r0 < toRat x := by simpa [betterB] using hb1
            refine ⟨by have := ht.1; omega, ht.2.1, fun k' hk' y hy => ?_⟩
            rcases Nat.lt_or_ge k' k with h | h
            · exact ht.2.2 k' h y hy
            · have e0 : k' = k := by omega
              subst e0
              rw [hb] at hy; cases hy
              exact ⟨Rat.not_lt.1 h2, fun h3 => absurd h3 (by have := ht.1; omega)⟩
        · rw [m_cocketref01_best_l1, decide_eq_true (by omega)]
          simp only [cond_true, cond_false, r1, e1, Option.bind_some, hIs, hbet, hb1, hwi]
def validB (l : List Offer) (to : Int) (kk : Nat) (v : Int) (c : Rat) (i : Int) : Prop := ∃ o, idx l i = some o ∧ o.From = v ∧ ∃ x, bestK l to kk o.To = some x ∧ toRat (rateO o) * toRat x = c
theorem refBest_l3 {n : Int} {l : List Offer} (hm : MarketOk ⟨n, l⟩) {R : List (List Reach)} {to : Int} (hR : ∀ i : Nat, i < n.toNat → ∃ r, idx R (i : Int) = some r ∧ RL n r (bestK l to i)) {v : Int} {many : Nat} (hmany : (many : Int) < n)
    {L : List Int} {q : Q} {c : Ratio} (hL : L.length < many) (hq : IsQ q c) (hc : RatOk c 312500000) : ∀ (j i : Nat), j = l.length - i → (∃ i', i ≤ i' ∧ validB l to (many - L.length - 1) v (toRat c) (i' : Int)) →
    ∃ (i' : Nat) (o : Offer) (x : Ratio) (q' : Q), iter (m_cocketref01_best_l3 l R (many : Int) v) ((i : Int), L, q) = some (o.To, L ++ [(i' : Int)], q') ∧ (∀ i'', i ≤ i'' → i'' < i' → ¬ validB l to (many - L.length - 1) v (toRat c) (i'' : Int)) ∧
      idx l (i' : Int) = some o ∧ o.From = v ∧ bestK l to (many - L.length - 1) o.To = some x ∧ toRat (rateO o) * toRat x = toRat c ∧ IsQ q' x
  | 0, i, hj, ⟨i', h1, o, h2, _⟩ => by
    have := (idx_some h2).2.1
    omega
  | j + 1, i, hj, hex => by
    have hlen := hm.len
    have hn2 := hm.n2
    dsimp only at hlen hn2
    have hil : i < l.length := by
      obtain ⟨i', h1, o, h2, _⟩ := hex
      have := (idx_some h2).2.1
      omega
    obtain ⟨o, e1, e2, e3, e4⟩ := idx_lt (l := l) (i := (i : Int)) (by omega) (by omega)
    have hok := hm.good o e4
    have hok2 := hok
    simp only [offerOk, goodOffer, Bool.and_eq_true, decide_eq_true_eq] at hok2
    have hwi : IntKind.i64.wrap ((i : Int) + 1) = ((i + 1 : Nat) : Int) := by rw [wrap_i64_eq (by omega)]; omega
    have ew : IntKind.i64.wrap (IntKind.i64.wrap ((many : Int) - (L.length : Int)) - 1) = ((many - L.length - 1 : Nat) : Int) := by
      rw [wrap_i64_eq (x := (many : Int) - (L.length : Int)) (by omega), wrap_i64_eq (by omega)]; omega
    obtain ⟨Rr, f1, f2⟩ := hR (many - L.length - 1) (by omega)
    obtain ⟨e, f3, f4⟩ := f2.2 o.To (by omega) (by omega)
    have hon : ¬ validB l to (many - L.length - 1) v (toRat c) (i : Int) → m_cocketref01_best_l3 l R (many : Int) v ((i : Int), L, q) = some (.inl (((i + 1 : Nat) : Int), L, q)) →
        ∃ (i' : Nat) (o : Offer) (x : Ratio) (q' : Q), iter (m_cocketref01_best_l3 l R (many : Int) v) ((i : Int), L, q) = some (o.To, L ++ [(i' : Int)], q') ∧ (∀ i'', i ≤ i'' → i'' < i' → ¬ validB l to (many - L.length - 1) v (toRat c) (i'' : Int)) ∧
          idx l (i' : Int) = some o ∧ o.From = v ∧ bestK l to (many - L.length - 1) o.To = some x ∧ toRat (rateO o) * toRat x = toRat c ∧ IsQ q' x := fun hnv hst => by
      obtain ⟨i', h1, h2⟩ := hex
      have hne : i ≠ i' := fun h => by subst h; exact hnv h2
      obtain ⟨i2, o2, x2, q2, g1, g2, g3⟩ := refBest_l3 hm hR (v := v) hmany hL hq hc j (i + 1) (by omega) ⟨i', by omega, h2⟩
      refine ⟨i2, o2, x2, q2, iter_step hst g1, fun i'' h3 h4 => ?_, g3⟩
      rcases Nat.lt_or_ge i i'' with h | h
      · exact g2 i'' (by omega) h4
      · have : i = i'' := by omega
        subst this; exact hnv
    by_cases hv : o.From = v
    · cases hx : bestK l to (many - L.length - 1) o.To with
      | none =>
        rw [hx] at f4
        have hIs : e.Is = false := f4
        refine hon (fun ⟨o', h1, h2, x, h3, h4⟩ => by rw [e1] at h1; cases h1; rw [hx] at h3; cases h3) ?_
        rw [m_cocketref01_best_l3, decide_eq_true (by omega)]
        simp only [cond_true, e1, Option.bind_some, decide_eq_true hv, ew, f1, f3, hIs, cond_false, hwi]
      | some x =>
        rw [hx] at f4
        obtain ⟨hIs, hQ⟩ : e.Is = true ∧ IsQ e.Rate x := f4
        obtain ⟨qo, r1, r2⟩ := rate_eq hok
        have hro := rateO_ok hok
        have hxo := bestK_ok5 hm (by omega) hx
        obtain ⟨qm, m1, m2⟩ := Mul_eq r2 hQ (hro.le (m' := 312500000) (by decide)) hxo (by have := p40; have := p12; omega)
        have hmo := mulN_ok hro hxo
        have hcmp := Cmp_eq m2 hq (hmo.le (m' := 15625000000) (by decide)) (hc.le (by decide)) (by have := p40; have := p12; omega)
        have hlt1 := toRat_lt hmo.d1 hc.d1
        have hlt2 := toRat_lt hc.d1 hmo.d1
        rw [toRat_mulN hro.n1 hro.d1 hxo.n1 hxo.d1] at hlt1 hlt2
        by_cases hz : toRat (rateO o) * toRat x = toRat c
        · have hs0 : sgn ((mulN (rateO o) x).Num * c.Den - c.Num * (mulN (rateO o) x).Den) = 0 := by
            rw [hz] at hlt1 hlt2
            have a1 := mt hlt1.2 Rat.lt_irrefl
            have a2 := mt hlt2.2 Rat.lt_irrefl
            have : (mulN (rateO o) x).Num * c.Den - c.Num * (mulN (rateO o) x).Den = 0 := by omega
            rw [this]; rfl
          refine ⟨i, o, x, e.Rate, iter_done ?_, fun i'' h1 h2 => absurd h1 (by omega), e1, hv, hx, hz, hQ⟩
          rw [m_cocketref01_best_l3, decide_eq_true (by omega)]
          simp only [cond_true, e1, Option.bind_some, decide_eq_true hv, ew, f1, f3, hIs, r1, m1, hcmp, hs0, decide_true]
          rw [guardO_pos (by simp; omega)]
        · have hs0 : sgn ((mulN (rateO o) x).Num * c.Den - c.Num * (mulN (rateO o) x).Den) ≠ 0 := fun h0 => by
            have a1 := (sgn_zero _).1 h0
            refine hz (Rat.le_antisymm ?_ ?_)
            · exact Rat.not_lt.1 fun h => by have := hlt2.1 h; omega
            · exact Rat.not_lt.1 fun h => by have := hlt1.1 h; omega
          refine hon (fun ⟨o', h1, h2, x', h3, h4⟩ => by rw [e1] at h1; cases h1; rw [hx] at h3; cases h3; exact hz h4) ?_
          rw [m_cocketref01_best_l3, decide_eq_true (by omega)]
          simp only [cond_true, e1, Option.bind_some, decide_eq_true hv, ew, f1, f3, hIs, r1, m1, hcmp, decide_eq_false hs0, cond_false, hwi]
    · refine hon (fun ⟨o', h1, h2, _⟩ => by rw [e1] at h1; cases h1; exact hv h2) ?_
      rw [m_cocketref01_best_l3, decide_eq_true (by omega)]
      simp only [cond_true, e1, Option.bind_some, decide_eq_false hv, cond_false, hwi, ew, f1, f3]
end Go.Pv

set_option linter.unusedSimpArgs false
set_option linter.unusedVariables false
namespace Go.Pv
def LeastB (l : List Offer) (frm to : Int) (many : Nat) (c : Rat) (L : List Int) : Prop :=
  ∀ p', Path l frm p' to → p'.length = many → rtp l p' = c → p'.take L.length = L ∨ cmpL L (p'.take L.length) < 0
theorem rat_cancel {a b c : Rat} (ha : 0 < a) (h : a * b = a * c) : b = c := by
  have h2 : a⁻¹ * (a * b) = a⁻¹ * (a * c) := by rw [h]
  have ne : a ≠ 0 := fun e => by rw [e] at ha; exact absurd ha Rat.lt_irrefl
  rw [← Rat.mul_assoc, ← Rat.mul_assoc, Rat.inv_mul_cancel _ ne, Rat.one_mul, Rat.one_mul] at h2
  exact h2
theorem validB_of_path {n : Int} {l : List Offer} (ho : ∀ o ∈ l, offerOk n o = true) {to v i : Int} {rest : List Int} {c : Ratio} (hb : bestK l to (rest.length + 1) v = some c) (hp : Path l v (i :: rest) to) (hr : rtp l (i :: rest) = toRat c) : validB l to rest.length v (toRat c) i := by
  obtain ⟨o, h1, h2, h3⟩ := hp
  obtain ⟨x, h4, h5⟩ := bestK_most ho to rest o.To h3
  have hro := rateO_ok (ho o (idx_mem h1))
  have hpos := toRat_pos hro.n1 hro.d1
  obtain ⟨p2, g1, g2, g3⟩ := bestK_path ho to _ _ x h4
  obtain ⟨c', c1, c2⟩ := bestK_most ho to (i :: p2) v ⟨o, h1, h2, g1⟩
  have e : (i :: p2).length = rest.length + 1 := by simp [g2]
  rw [e, hb] at c1; cases c1
  refine ⟨o, h1, h2, x, h4, Rat.le_antisymm ?_ ?_⟩
  · rw [rtp, rtI, h1] at c2
    dsimp only at c2
    rw [g3] at c2; exact c2
  · rw [← hr, rtp, rtI, h1]
    exact Rat.mul_le_mul_of_nonneg_left h5 (Rat.le_of_lt hpos)
theorem refBest_l2 {n : Int} {l : List Offer} (hm : MarketOk ⟨n, l⟩) {R : List (List Reach)} {to frm : Int} (hR : ∀ i : Nat, i < n.toNat → ∃ r, idx R (i : Int) = some r ∧ RL n r (bestK l to i)) {many : Nat} (hmany : (many : Int) < n) {t : Rat} :
    ∀ (j : Nat) (L : List Int) (q : Q) (c : Ratio) (v : Int), j = many - L.length → L.length ≤ many → IsQ q c → bestK l to (many - L.length) v = some c → Path l frm L v → rtp l L * toRat c = t → LeastB l frm to many t L →
    ∃ p, iter (m_cocketref01_best_l2 l R (many : Int)) (v, L, q) = some p ∧ Path l frm p to ∧ p.length = many ∧ rtp l p = t ∧ ∀ p', Path l frm p' to → p'.length = many → rtp l p' = t → cmpL p p' ≤ 0
  | 0, L, q, c, v, hj, hLk, hq, hb, hp, ht, hls => by
    have e : L.length = many := by omega
    rw [e, Nat.sub_self] at hb
    unfold bestK at hb
    split at hb
    · rename_i hvs
      cases hb
      subst hvs
      rw [toRat_one, Rat.mul_one] at ht
      refine ⟨L, iter_done ?_, hp, e, ht, fun p' h1 h2 h3 => ?_⟩
      · rw [m_cocketref01_best_l2, decide_eq_false (by omega)]; rfl
      · have := hls p' h1 h2 h3
        rw [e, List.take_of_length_le (by omega)] at this
        rcases this with h | h
        · rw [h, cmpL_self]; omega
        · omega
    · cases hb
  | j + 1, L, q, c, v, hj, hLk, hq, hb, hp, ht, hls => by
    have hlen := hm.len
    have hn2 := hm.n2
    dsimp only at hlen hn2
    have hc5 := bestK_ok5 hm (by omega) hb
    have hLpos := rtp_pos hm.good L
    have e1 : many - L.length = many - L.length - 1 + 1 := by omega
    have hex : ∃ i', 0 ≤ i' ∧ validB l to (many - L.length - 1) v (toRat c) (i' : Nat) := by
      obtain ⟨p, p1, p2, p3⟩ := bestK_path hm.good to _ _ c hb
      cases p with
      | nil => simp at p2; omega
      | cons i0 rest =>
        have hrl : rest.length = many - L.length - 1 := by simp at p2; omega
        have := validB_of_path hm.good (by rw [hrl, ← e1]; exact hb) p1 p3
        rw [hrl] at this
        have this2 := this
        obtain ⟨o, o1, _⟩ := this2
        have h0 := (idx_some o1).1
        refine ⟨i0.toNat, Nat.zero_le _, ?_⟩
        rw [Int.toNat_of_nonneg h0]
        exact this
    obtain ⟨i', o, x, q', g1, g4, g5, g7, g8, g9, g6⟩ := refBest_l3 hm hR (v := v) hmany (L := L) (q := q) (c := c) (by omega) hq hc5 l.length 0 (by omega) hex
    have hro := rateO_ok (hm.good o (idx_mem g5))
    have hls2 : LeastB l frm to many t (L ++ [(i' : Int)]) := fun p' h1 h2 h3 => by
      obtain ⟨a, rest, hsplit⟩ : ∃ a rest, p' = p'.take L.length ++ a :: rest := ⟨p'[L.length]'(by omega), p'.drop (L.length + 1), by rw [← List.drop_eq_getElem_cons]; exact (List.take_append_drop _ _).symm⟩
      have htk : p'.take (L.length + 1) = p'.take L.length ++ [a] := by
        have hlt : (p'.take L.length).length = L.length := by rw [List.length_take]; omega
        have : p'.take (L.length + 1) = (p'.take L.length ++ a :: rest).take (L.length + 1) := by rw [← hsplit]
        rw [this, List.take_append, hlt]
        simp
        rw [List.take_of_length_le (by simp; omega)]
      rw [List.length_append, List.length_singleton, htk]
      rcases hls p' h1 h2 h3 with h | h
      · rw [h] at hsplit ⊢
        have hpath := h1
        rw [hsplit] at hpath
        obtain ⟨w, w1, w2⟩ := path_app.1 hpath
        have hwv := path_det w1 hp
        subst hwv
        have hg := h3
        rw [hsplit, rtp_app, ← ht] at hg
        have hg2 := rat_cancel hLpos hg
        have hrl : rest.length = many - L.length - 1 := by
          have := congrArg List.length hsplit
          simp at this
          omega
        have hva := validB_of_path hm.good (by rw [hrl, ← e1]; exact hb) w2 hg2
        rw [hrl] at hva
        have ha0 : 0 ≤ a := by
          obtain ⟨o', o1', _⟩ := hva
          exact (idx_some o1').1
        have hai : i' ≤ a.toNat := by
          rcases Nat.lt_or_ge a.toNat i' with hlt | hge
          · exact absurd (by rw [Int.toNat_of_nonneg ha0]; exact hva) (g4 a.toNat (Nat.zero_le _) hlt)
          · exact hge
        rcases Nat.lt_or_ge i' a.toNat with hlt | hge
        · right
          rw [cmpL_app]
          simp only [cmpL]
          rw [if_pos (by omega)]; decide
        · left
          have : a = (i' : Int) := by omega
          rw [this]
      · right
        exact cmpL_lt_app (by rw [List.length_take]; omega) h _ _
    obtain ⟨p, f1, f2⟩ := refBest_l2 hm hR hmany j (L ++ [(i' : Int)]) q' x o.To (by simp; omega) (by simp; omega) g6 (by
        rw [List.length_append, List.length_singleton, show many - (L.length + 1) = many - L.length - 1 by omega]; exact g8) (path_app.2 ⟨v, hp, o, g5, g7, rfl⟩) (by
        rw [rtp_app, rtp, rtp, rtI, g5, Rat.mul_one, Rat.mul_assoc, g9]; exact ht) hls2
    refine ⟨p, iter_step (s' := (o.To, L ++ [(i' : Int)], q')) ?_ f1, f2⟩
    rw [show ((0 : Nat) : Int) = 0 from rfl] at g1
    rw [m_cocketref01_best_l2, decide_eq_true (by omega)]
    simp only [cond_true, Option.bind_some, g1]
theorem free_least {n : Int} {l : List Offer} (ho : ∀ o ∈ l, offerOk n o = true) (h : ∀ (k : Nat) (p : List Int), ¬ Gain l k p) {p : List Int} {v u : Int} (hp : Path l v p u) (hl : ∀ q, Path l v q u → rtp l p ≤ rtp l q → p.length ≤ q.length) : Free l false v [] v p := by
  refine Classical.byContradiction fun hf => ?_
  have hex : ∃ (a1 c b : List Int) (x : Int), p = a1 ++ c ++ b ∧ Path l v a1 x ∧ Path l x c x ∧ Path l x b u ∧ c ≠ [] := by
    refine Classical.byContradiction fun hne => hf ?_
    refine free_of p [] v u [] rfl (fun y hy => ?_) hp (fun a1 c b x e g1 g2 g3 => ?_)
    · simp at hy; subst hy; exact ⟨[], [], rfl, rfl, rfl⟩
    · left
      refine Classical.byContradiction fun hc => hne ⟨a1, c, b, x, by simpa using e, g1, g2, g3, hc⟩
  obtain ⟨a1, c, b, x, e, g1, g2, g3, hc⟩ := hex
  have hc0 : 0 < c.length := by
    rcases Nat.eq_zero_or_pos c.length with h | h
    · exact absurd (List.length_eq_zero_iff.1 h) hc
    · exact h
  have hle : rtp l c ≤ 1 := Rat.not_lt.1 fun hg => h c.length c ⟨x, g2, rfl, hg⟩
  have := hl (a1 ++ b) (path_app.2 ⟨x, g1, g3⟩) (by
    rw [e, rtp_app, rtp_app, Rat.mul_comm (rtp l a1), Rat.mul_assoc, ← rtp_app]
    exact rat_one_lt_mul hle (rtp_pos ho (a1 ++ b)))
  rw [e] at this
  simp at this
  omega
def IsBest (l : List Offer) (v u : Int) (r : Ratio) (w : List Int) : Prop :=
  Path l v w u ∧ rtp l w = toRat r ∧ ∀ p, Path l v p u → rtp l p ≤ toRat r ∧ (toRat r ≤ rtp l p → w.length < p.length ∨ (w.length = p.length ∧ cmpL w p ≤ 0))
theorem IsBest.uniq {l : List Offer} {v u : Int} {r r' : Ratio} {w w' : List Int} {m k : Int} (h : IsBest l v u r w) (h' : IsBest l v u r' w') (hr : RatOk r m) (hr' : RatOk r' k) : r = r' ∧ w = w' := by
  have h1 := (h.2.2 w' h'.1).1
  have h2 := (h'.2.2 w h.1).1
  rw [h'.2.1] at h1
  rw [h.2.1] at h2
  have he := Rat.le_antisymm h2 h1
  have h3 := (h.2.2 w' h'.1).2 (by rw [h'.2.1, he]; exact Rat.le_refl)
  have h4 := (h'.2.2 w h.1).2 (by rw [h.2.1, he]; exact Rat.le_refl)
  refine ⟨hr.inj hr' he, ?_⟩
  exact cmpL_anti (by omega) (by omega)
theorem refBest_eq {n : Int} {l : List Offer} (hm : MarketOk ⟨n, l⟩) (h : ∀ (k : Nat) (p : List Int), ¬ Gain l k p) {frm to : Int} (hf : 0 ≤ frm ∧ frm < n) (ht : 0 ≤ to ∧ to < n) :
    ∃ q w, m_cocketref01_best n l frm to = some (q, w, (bestS ⟨n, l⟩ frm to).2) ∧ ((bestS ⟨n, l⟩ frm to).2 = true → w = (bestS ⟨n, l⟩ frm to).1.list ∧ IsQ q (bestS ⟨n, l⟩ frm to).1.rate ∧ RatOk (bestS ⟨n, l⟩ frm to).1.rate 312500000 ∧ w.length ≤ 5) ∧
      ((bestS ⟨n, l⟩ frm to).2 = true → IsBest l frm to (bestS ⟨n, l⟩ frm to).1.rate (bestS ⟨n, l⟩ frm to).1.list) ∧ ((bestS ⟨n, l⟩ frm to).2 = false → ∀ p, ¬ Path l frm p to) := by
  have hn1 := hm.n1
  have hn2 := hm.n2
  dsimp only at hn1 hn2
  obtain ⟨R, r1, r2, r3⟩ := reaches_eq hm ht (most := (n - 1).toNat) (by omega)
  have en : ((n - 1).toNat : Int) = n - 1 := by omega
  rw [en] at r1
  have hR : ∀ i : Nat, i < n.toNat → ∃ r, idx R (i : Int) = some r ∧ RL n r (bestK l to i) := fun i hi => r3 i (by omega)
  obtain ⟨many, c, g, s1, s2, s3⟩ := refBest_l1 hm hf hR n.toNat 0 0 (⟨false, (⟨(⟨false, []⟩ : Big), (⟨false, []⟩ : Big)⟩ : Q)⟩ : Reach) none (by omega) (by omega) rfl (fun k hk => absurd hk (by omega))
  rw [show ((0 : Nat) : Int) = 0 from rfl] at s1
  -- what paths there are
  have hshort : ∀ p, Path l frm p to → ∃ q, Path l frm q to ∧ (q.length : Int) < n ∧ rtp l p ≤ rtp l q := fun p hp => by
    obtain ⟨q, q1, q2, q3, q4⟩ := shorten hm.good h p.length p frm to rfl hp
    have hlen := free_len (n := n) hm.good q [] frm to q1 q2 (by simp) (fun x hx => by simp at hx; omega) (by omega)
    simp at hlen
    exact ⟨q, q1, by omega, q4⟩
  cases g with
  | none =>
    have hIs : c.Is = false := s2
    have hno : ∀ p, ¬ Path l frm p to := fun p hp => by
      obtain ⟨q, q1, q2, _⟩ := hshort p hp
      obtain ⟨x, x1, _⟩ := bestK_most hm.good to q frm q1
      rw [s3 q.length (by omega)] at x1; cases x1
    have hne : frm ≠ to := fun e => hno [] e
    have hfl : (bestS ⟨n, l⟩ frm to).2 = false := by
      rcases Bool.eq_false_or_eq_true (bestS ⟨n, l⟩ frm to).2 with hb | hb
      · obtain ⟨_, ⟨p, p1, _⟩, _⟩ := (best_rate hm h hf hne).1 hb
        exact absurd p1 (hno p)
      · exact hb
    refine ⟨(⟨(⟨false, []⟩ : Big), (⟨false, []⟩ : Big)⟩ : Q), [], ?_, fun hb => (by rw [hfl] at hb; cases hb), fun hb => (by rw [hfl] at hb; cases hb), fun _ => hno⟩
    rw [m_cocketref01_best, wrap_i64_eq (by omega), r1]
    simp only [Option.bind_some, s1, hIs, Bool.not_false, cond_true, hfl]
  | some r =>
    obtain ⟨hIs, hQ⟩ : c.Is = true ∧ IsQ c.Rate r := s2
    obtain ⟨t1, t2, t3⟩ := s3
    have hr5 := bestK_ok5 hm (by omega) t2
    obtain ⟨w, w1, w2, w3, w4, w5⟩ := refBest_l2 hm hR (frm := frm) (many := many) (by omega) (t := toRat r) many [] c.Rate r frm (by simp) (by simp) hQ (by simpa using t2) rfl (by rw [rtp, Rat.one_mul]) (fun p' _ _ _ => .inl rfl)
    have hmax : ∀ p, Path l frm p to → rtp l p ≤ toRat r := fun p hp => by
      obtain ⟨q, q1, q2, q3⟩ := hshort p hp
      obtain ⟨x, x1, x2⟩ := bestK_most hm.good to q frm q1
      exact Rat.le_trans q3 (Rat.le_trans x2 (t3 q.length (by omega) x x1).1)
    have hlst : ∀ p, Path l frm p to → toRat r ≤ rtp l p → many ≤ p.length := fun p hp hle => by
      rcases Nat.lt_or_ge p.length many with hlt | hge
      · obtain ⟨x, x1, x2⟩ := bestK_most hm.good to p frm hp
        have := (t3 p.length (by omega) x x1).2 hlt
        exact absurd (Rat.le_trans hle x2) (Rat.not_le.2 this)
      · exact hge
    have hgoal : (bestS ⟨n, l⟩ frm to).2 = true ∧ w = (bestS ⟨n, l⟩ frm to).1.list ∧ (bestS ⟨n, l⟩ frm to).1.rate = r := by
      by_cases hne : frm = to
      · subst hne
        have e : bestS ⟨n, l⟩ frm frm = (⟨[], ⟨1, 1⟩, 0⟩, true) := by rw [bestS, if_pos rfl]
        have hle := closed_le h w2
        have h11 := hmax [] rfl
        rw [w4] at hle
        rw [rtp] at h11
        have hr1 : toRat r = toRat ⟨1, 1⟩ := by rw [toRat_one]; exact Rat.le_antisymm hle h11
        have hm0 := hlst [] rfl (by rw [rtp]; exact hle)
        rw [e]
        refine ⟨rfl, ?_, (hr5.inj (m := 312500000) (k := 50 ^ 5) one_ok hr1).symm⟩
        cases w with
        | nil => rfl
        | cons a b => simp at w3 hm0; omega
      · have hbs := bestS_so hm (frm := frm) hne
        have htr : (bestS ⟨n, l⟩ frm to).2 = true := by
          rcases Bool.eq_false_or_eq_true (bestS ⟨n, l⟩ frm to).2 with hb | hb
          · exact hb
          · exact absurd w2 ((best_rate hm h hf hne).2 hb w)
        obtain ⟨u1, u2, u3⟩ := hbs.2 htr
        obtain ⟨v1, v2, v3, v4, v5⟩ := allW_sound hm frm _ u1
        rw [u2] at v1
        have hfree := free_least hm.good h w2 (fun q hq hle => by rw [w3]; exact hlst q hq (by rw [← w4]; exact hle))
        obtain ⟨y, y1, y2, y3⟩ := allW_all hm hf w2 hfree hne
        obtain ⟨z1, z2, z3, z4, z5⟩ := allW_sound hm frm y y1
        rw [y2, w4] at z3
        have h6 := (u3 y y1 y3)
        have hrate : toRat (bestS ⟨n, l⟩ frm to).1.rate = toRat r := by
          refine Rat.le_antisymm ?_ ?_
          · rw [v3]; exact hmax _ v1
          · rw [← z3]; exact h6.1
        have hord := h6.2 (by rw [z3, hrate])
        have hlen := hlst _ v1 (by rw [← v3, hrate]; exact Rat.le_refl)
        have hle1 : (bestS ⟨n, l⟩ frm to).1.list.length = many ∧ cmpL (bestS ⟨n, l⟩ frm to).1.list w ≤ 0 := by
          rcases hord with ho | ⟨ho1, ho2⟩
          · rw [y2, w3] at ho
            omega
          · rw [y2] at ho1 ho2
            exact ⟨by omega, ho2⟩
        have hle2 := w5 _ v1 hle1.1 (by rw [← v3, hrate])
        exact ⟨htr, (cmpL_anti hle1.2 hle2).symm, v2.inj hr5 hrate⟩
    obtain ⟨h1, h2, h3⟩ := hgoal
    refine ⟨c.Rate, w, ?_, fun _ => ⟨h2, by rw [h3]; exact hQ, by rw [h3]; exact hr5, by omega⟩, fun _ => ?_, fun hb => by rw [h1] at hb; cases hb⟩
    · rw [m_cocketref01_best, wrap_i64_eq (by omega), r1]
      simp only [Option.bind_some, s1, hIs, Bool.not_true, cond_false, h1, w1]
    · rw [← h2, h3]
      refine ⟨w2, w4, fun p hp => ⟨hmax p hp, fun hle => ?_⟩⟩
      have := hlst p hp hle
      rcases Nat.lt_or_ge w.length p.length with hlt | hge
      · exact .inl hlt
      · exact .inr ⟨by omega, w5 p hp (by omega) (Rat.le_antisymm (hmax p hp) hle)⟩
end Go.Pv

set_option linter.unusedSimpArgs false
set_option linter.unusedVariables false
namespace Go.Pv
end Go.Pv

set_option linter.unusedSimpArgs false
set_option linter.unusedVariables false
namespace Go.Pv
end Go.Pv

set_option linter.unusedSimpArgs false
set_option linter.unusedVariables false
namespace Go.Pv
theorem off_range {n : Int} {o : Offer} (h : offerOk n o = true) : (0 ≤ o.From ∧ o.From < n) ∧ (0 ≤ o.To ∧ o.To < n) := by
  simp only [offerOk, goodOffer, Bool.and_eq_true, decide_eq_true_eq] at h
  omega
end Go.Pv

set_option linter.unusedSimpArgs false
set_option linter.unusedVariables false
namespace Go.Pv
theorem p40' : (1099511627776 : Int) < 10000 ^ 40 := by have := p40; have := p12; omega
end Go.Pv

set_option linter.unusedSimpArgs false
set_option linter.unusedVariables false
namespace Go.Pv
structure Calm (n : Int) (l : List Offer) (a c : Int) : Prop where
  m : MarketOk ⟨n, l⟩
  g : ∀ (k : Nat) (p : List Int), ¬ Gain l k p
  ha : 0 ≤ a ∧ a < n
  hc : 0 ≤ c ∧ c < n
theorem cmp_rat {a b : Ratio} {x y : Q} {m : Int} (hx : IsQ x a) (hy : IsQ y b) (ha : RatOk a m) (hb : RatOk b m) (hm : m < 10000 ^ 40) : ∃ s, m_cocketref01_Cmp x y = some s ∧ (s < 0 ↔ toRat a < toRat b) ∧ (0 < s ↔ toRat b < toRat a) := by
  refine ⟨_, Cmp_eq hx hy ha hb hm, ?_, ?_⟩
  · rw [toRat_lt ha.d1 hb.d1]
    have := sgn_le (a.Num * b.Den - b.Num * a.Den)
    have := sgn_zero (a.Num * b.Den - b.Num * a.Den)
    omega
  · rw [toRat_lt hb.d1 ha.d1, sgn_pos]; omega
end Go.Pv

set_option linter.unusedSimpArgs false
set_option linter.unusedVariables false
namespace Go.Pv
def wo (l : List Offer) (i : Nat) : List Offer := l.take i ++ l.drop (i + 1)
def up (i : Nat) (j : Int) : Int := if j < i then j else j + 1
theorem idx_wo {l : List Offer} {i : Nat} (hi : i < l.length) (j : Int) : idx (wo l i) j = idx l (up i j) := by
  by_cases hj : 0 ≤ j
  · have hu : 0 ≤ up i j := by unfold up; split <;> omega
    rw [idx_pos hj, idx_pos hu]
    unfold wo up
    by_cases h : j < i
    · rw [if_pos h, List.getElem?_append_left (by simp; omega), List.getElem?_take, if_pos (by omega)]
    · rw [if_neg h, List.getElem?_append_right (by simp; omega), List.getElem?_drop]
      congr 1; simp; omega
  · have hu : ¬ 0 ≤ up i j := by unfold up; split <;> omega
    unfold idx
    rw [if_neg hj, if_neg hu]
theorem mem_wo {l : List Offer} {i : Nat} {o : Offer} (h : o ∈ wo l i) : o ∈ l := by
  unfold wo at h
  rcases List.mem_append.1 h with h | h
  · exact List.mem_of_mem_take h
  · exact List.mem_of_mem_drop h
theorem wo_ok {n : Int} {l : List Offer} {i : Nat} (hm : MarketOk ⟨n, l⟩) : MarketOk ⟨n, wo l i⟩ :=
  ⟨hm.n1, hm.n2, by have := hm.len; dsimp only at this ⊢; unfold wo; simp; omega, fun o ho => hm.good o (mem_wo ho)⟩
theorem path_wo {l : List Offer} {i : Nat} (hi : i < l.length) : ∀ (p : List Int) (v u : Int), Path (wo l i) v p u ↔ Path l v (p.map (up i)) u
  | [], v, u => Iff.rfl
  | j :: p, v, u => by
    simp only [List.map_cons, Path, idx_wo hi]
    exact ⟨fun ⟨o, h1, h2, h3⟩ => ⟨o, h1, h2, (path_wo hi p _ _).1 h3⟩, fun ⟨o, h1, h2, h3⟩ => ⟨o, h1, h2, (path_wo hi p _ _).2 h3⟩⟩
theorem rtp_wo {l : List Offer} {i : Nat} (hi : i < l.length) : ∀ p : List Int, rtp (wo l i) p = rtp l (p.map (up i))
  | [] => rfl
  | j :: p => by simp only [List.map_cons, rtp, rtI, idx_wo hi, rtp_wo hi p]
theorem gain_wo {l : List Offer} {i : Nat} (hi : i < l.length) {k : Nat} {p : List Int} (h : Gain (wo l i) k p) : Gain l k (p.map (up i)) := by
  obtain ⟨s, h1, h2, h3⟩ := h
  exact ⟨s, (path_wo hi p s s).1 h1, by simpa using h2, by rw [← rtp_wo hi]; exact h3⟩
def spareB (n : Int) (l : List Offer) (i : Nat) (o : Offer) : Bool := (bestS ⟨n, wo l i⟩ o.From o.To).2 && !aboveS (rateO o) (bestS ⟨n, wo l i⟩ o.From o.To).1.rate
end Go.Pv

set_option linter.unusedSimpArgs false
set_option linter.unusedVariables false
namespace Go.Pv
def spareAt (n : Int) (l : List Offer) (i : Nat) : Bool := match idx l (i : Int) with
  | some o => spareB n l i o
  | none => false
def sparesFrom (n : Int) (l : List Offer) : Nat → Nat → List Int
  | 0, _ => []
  | k + 1, i => (if spareAt n l i = true then [(i : Int)] else []) ++ sparesFrom n l k (i + 1)
theorem sparesFrom_len (n : Int) (l : List Offer) : ∀ k i, (sparesFrom n l k i).length ≤ k
  | 0, _ => by simp [sparesFrom]
  | k + 1, i => by
    have := sparesFrom_len n l k (i + 1)
    simp only [sparesFrom, List.length_append]
    split <;> simp <;> omega
theorem del_wo {l : List Offer} {i : Nat} (hi : i < l.length) : List.take (delN l (i : Int) ((i + 1 : Nat) : Int)) (delP l (i : Int) ((i + 1 : Nat) : Int)) = wo l i := by
  unfold delN delP wo
  rw [show (((i + 1 : Nat) : Int) - (i : Int)).toNat = 1 by omega, show ((i : Int)).toNat = i by omega, show (((i + 1 : Nat) : Int)).toNat = i + 1 by omega]
  rw [List.take_append_of_le_length (by simp; omega), List.take_of_length_le (by simp; omega)]
theorem needless_l1 {n : Int} {l : List Offer} (hm : MarketOk ⟨n, l⟩) : ∀ (j i : Nat) (L : List Int), j = l.length - i → i ≤ l.length → L.length ≤ i → iter (m_rate_Needless_l1 n l) ((i : Int), L) = some (L ++ sparesFrom n l j i)
  | 0, i, L, hj, hi, hL => by
    refine iter_done ?_
    rw [m_rate_Needless_l1]
    simp only [decide_eq_false (show ¬ (i : Int) < (l.length : Int) by omega), cond_false, sparesFrom, List.append_nil]
  | j + 1, i, L, hj, hi, hL => by
    have hlen := hm.len
    have hn2 := hm.n2
    dsimp only at hlen hn2
    obtain ⟨o, e1, e2, e3, e4⟩ := idx_lt (l := l) (i := (i : Int)) (by omega) (by omega)
    have hok := hm.good o e4
    have ho := hok
    simp only [offerOk, goodOffer, Bool.and_eq_true, decide_eq_true_eq] at ho
    have hr := off_range hok
    have hro := rateO_ok hok
    have hwi : IntKind.i64.wrap ((i : Int) + 1) = ((i + 1 : Nat) : Int) := by rw [wrap_i64_eq (by omega)]; omega
    have hm' := wo_ok (i := i) hm
    obtain ⟨b1, b2⟩ := best_eq hm' (frm := o.From) hr.1 o.To
    have hc : cloneO l = some l := if_pos (by omega)
    have hd : delOk l (i : Int) ((i + 1 : Nat) : Int) = true := by unfold delOk; rw [decide_eq_true_eq]; omega
    have hra : m_rate_ratio o.Num o.Den = some (rateO o) := ratio_some _ _ (by omega) (by omega)
    have hab := above_ok (a := rateO o) (b := (bestS ⟨n, wo l i⟩ o.From o.To).1.rate) ⟨⟨by have := hro.n1; omega, by have := hro.n2; omega⟩, by have := hro.d1; omega, by have := hro.d2; omega⟩ b2
    have gL : L.length + [(i : Int)].length ≤ 4294967296 := by simp; omega
    refine iter_step (s' := (((i + 1 : Nat) : Int), L ++ (if spareAt n l i = true then [(i : Int)] else []))) ?_ ?_
    · rw [m_rate_Needless_l1]
      simp only [decide_eq_true (show (i : Int) < (l.length : Int) by omega), cond_true, e1, Option.bind_some, hc, hwi, guardO_pos hd, guardO_pos gL, del_wo (show i < l.length by omega), b1, hra, hab]
      unfold spareAt spareB
      rw [e1]
      dsimp only
      rcases Bool.eq_false_or_eq_true (bestS ⟨n, wo l i⟩ o.From o.To).2 with hb | hb
      · rcases Bool.eq_false_or_eq_true (aboveS (rateO o) (bestS ⟨n, wo l i⟩ o.From o.To).1.rate) with h | h
        · simp [hb, h]
        · simp [hb, h]
      · simp [hb]
    · rw [needless_l1 hm j (i + 1) _ (by omega) (by omega) (by rw [List.length_append]; split <;> simp <;> omega), sparesFrom, List.append_assoc]
def needS (n : Int) (l : List Offer) : List Int × Int := if ofCode n l = 0 then (if (roundS ⟨n, l⟩).isEmpty then (sparesFrom n l l.length 0, 0) else ([], 11)) else ([], ofCode n l)
theorem Needless_eq (n : Int) (l : List Offer) : m_rate_Needless n l = some (needS n l) := by
  unfold needS
  rw [m_rate_Needless, of_eq]
  by_cases h0 : ofCode n l = 0
  · have hm := MarketOk.of h0
    rw [if_pos h0, if_pos h0]
    simp only [Option.bind_some, not_true_eq_false, decide_false, cond_false, round_eq hm]
    rcases Bool.eq_false_or_eq_true (roundS ⟨n, l⟩).isEmpty with he | he
    · have := needless_l1 hm l.length 0 [] (by omega) (by omega) (by simp)
      rw [show ((0 : Nat) : Int) = 0 from rfl] at this
      simp only [he, Bool.not_true, cond_false, this, Option.bind_some, List.nil_append, if_true]
    · simp only [he, Bool.not_false, cond_true, Bool.false_eq_true, if_false]
  · rw [if_neg h0, if_neg h0]
    simp only [Option.bind_some, decide_eq_true (show ¬ ofCode n l = 0 from h0), cond_true]
theorem refNeedless_l1 {n : Int} {l : List Offer} (hm : MarketOk ⟨n, l⟩) (hg : ∀ (k : Nat) (p : List Int), ¬ Gain l k p) : ∀ (j i : Nat) (L : List Int), j = l.length - i → i ≤ l.length → L.length ≤ i → iter (m_cocketref01_Needless_l1 n l) ((i : Int), L) = some (L ++ sparesFrom n l j i)
  | 0, i, L, hj, hi, hL => by
    refine iter_done ?_
    rw [m_cocketref01_Needless_l1]
    simp only [decide_eq_false (show ¬ (i : Int) < (l.length : Int) by omega), cond_false, sparesFrom, List.append_nil]
  | j + 1, i, L, hj, hi, hL => by
    have hlen := hm.len
    have hn2 := hm.n2
    dsimp only at hlen hn2
    obtain ⟨o, e1, e2, e3, e4⟩ := idx_lt (l := l) (i := (i : Int)) (by omega) (by omega)
    have hok := hm.good o e4
    have hr := off_range hok
    have hro := rateO_ok hok
    have hlt : i < l.length := by omega
    have hwi : IntKind.i64.wrap ((i : Int) + 1) = ((i + 1 : Nat) : Int) := by rw [wrap_i64_eq (by omega)]; omega
    have hm' := wo_ok (i := i) hm
    have hg' : ∀ (k : Nat) (p : List Int), ¬ Gain (wo l i) k p := fun k p h => hg k _ (gain_wo hlt h)
    obtain ⟨q, w, c1, a1, a2, a3⟩ := refBest_eq hm' hg' (frm := o.From) (to := o.To) hr.1 hr.2
    obtain ⟨y, y1, y2⟩ := rate_eq hok
    have hw1 : l.take ((i : Int) - 0).toNat ++ (l.drop (((i + 1 : Nat) : Int)).toNat).take ((l.length : Int) - ((i + 1 : Nat) : Int)).toNat = wo l i := by
      unfold wo
      rw [show ((i : Int) - 0).toNat = i by omega, show (((i + 1 : Nat) : Int)).toNat = i + 1 by omega]
      congr 1
      exact List.take_of_length_le (by simp; omega)
    have g1 : (0 : Nat) ≤ 0 ∧ 0 ≤ (i : Int) ∧ (i : Int) ≤ (l.length : Int) := by omega
    have g2 : 0 + (l.take ((i : Int) - 0).toNat).length ≤ 4294967296 := by simp; omega
    have g3 : 0 ≤ ((i + 1 : Nat) : Int) ∧ ((i + 1 : Nat) : Int) ≤ (l.length : Int) ∧ (l.length : Int) ≤ (l.length : Int) := by omega
    have g4 : (0 + (l.take ((i : Int) - 0).toNat).length) + ((l.drop (((i + 1 : Nat) : Int)).toNat).take ((l.length : Int) - ((i + 1 : Nat) : Int)).toNat).length ≤ 4294967296 := by simp; omega
    have gL : L.length + [(i : Int)].length ≤ 4294967296 := by simp; omega
    refine iter_step (s' := (((i + 1 : Nat) : Int), L ++ (if spareAt n l i = true then [(i : Int)] else []))) ?_ ?_
    · rw [m_cocketref01_Needless_l1]
      simp only [decide_eq_true (show (i : Int) < (l.length : Int) by omega), cond_true, hwi, guardO_pos g1, guardO_pos g2, guardO_pos g3, guardO_pos g4, guardO_pos gL, e1, Option.bind_some, hw1, c1, y1]
      unfold spareAt spareB
      rw [e1]
      dsimp only
      rcases Bool.eq_false_or_eq_true (bestS ⟨n, wo l i⟩ o.From o.To).2 with hb | hb
      · obtain ⟨_, f2, f3, _⟩ := a1 hb
        obtain ⟨s, s1, s2, _⟩ := cmp_rat f2 y2 f3 (hro.le (m' := 312500000) (by decide)) (by have := p40'; omega)
        have hs : (0 ≤ s) ↔ aboveS (rateO o) (bestS ⟨n, wo l i⟩ o.From o.To).1.rate = false := by
          rw [← Bool.not_eq_true, aboveS_iff hro.d1 f3.d1, ← s2]; omega
        rcases Bool.eq_false_or_eq_true (aboveS (rateO o) (bestS ⟨n, wo l i⟩ o.From o.To).1.rate) with h | h
        · have hns : ¬ 0 ≤ s := fun hh => by rw [hs.1 hh] at h; cases h
          simp only [hb, cond_true, s1, Option.bind_some, decide_eq_false hns, cond_false]
          simp [h]
        · have hns : 0 ≤ s := hs.2 h
          simp only [hb, cond_true, s1, Option.bind_some, decide_eq_true hns]
          simp [h]
      · simp [hb]
    · rw [refNeedless_l1 hm hg j (i + 1) _ (by omega) (by omega) (by rw [List.length_append]; split <;> simp <;> omega), sparesFrom, List.append_assoc]
theorem refNeedless_eq (n : Int) (l : List Offer) : m_cocketref01_Needless n l = some (needS n l) := by
  unfold needS
  rw [m_cocketref01_Needless, Good_eq]
  by_cases h0 : ofCode n l = 0
  · have hm := MarketOk.of h0
    obtain ⟨b, h1, h2, h3, h4⟩ := roundS_eq hm
    rw [if_pos h0]
    simp only [Option.bind_some, decide_eq_false (show ¬ ¬ ofCode n l = 0 from fun h => h h0), cond_false, h1]
    rcases Bool.eq_false_or_eq_true (roundS ⟨n, l⟩).isEmpty with he | he
    · have := refNeedless_l1 hm (no_gain hm (h4 he)) l.length 0 [] (by omega) (by omega) (by simp)
      rw [show ((0 : Nat) : Int) = 0 from rfl] at this
      simp only [h2, he, Bool.not_true, cond_false, this, Option.bind_some, List.nil_append, if_true]
    · simp only [h2, he, Bool.not_false, cond_true, Bool.false_eq_true, if_false]
  · rw [if_neg h0]
    simp only [Option.bind_some, decide_eq_true (show ¬ ofCode n l = 0 from h0), cond_true]
theorem RateNeedless_law (n : Int) (l : List Offer) : m_cocketlaw01_RateNeedless n l = some true := by
  rw [m_cocketlaw01_RateNeedless, m_cocketlaw01_few]
  simp only [Option.bind_some, alive_true, Needless_eq, refNeedless_eq]
  rcases Bool.eq_false_or_eq_true (!decide ((l.length : Int) ≤ 60)) with h | h
  · rw [h]; rfl
  · rw [h]
    have hl : l.length ≤ 60 := by simp at h; omega
    have hn : (needS n l).1.length ≤ 1000 := by
      unfold needS
      have := sparesFrom_len n l l.length 0
      split
      · split
        · dsimp only; omega
        · simp
      · simp
    simp only [Bool.not_false, cond_false, same_eq _ _ (show (needS n l).1.length ≤ 1000000 by omega), Option.bind_some]
    simp
end Go.Pv

namespace Go.Pv.Tryd
open Go.Proofs Go.Pv
theorem m_cocketlaw01_few_ok (l1 : (List Offer)) (r : Bool) (h : m_cocketlaw01_few l1 = some r) : PureFn Tryd.prog G 17 [.d (.imm 4 (lenc Offer.pd l1))] (.d (.bool r)) := by
 unfold m_cocketlaw01_few at h
 refine pf Tryd.func17 Tryd.ntmps17 ?_
 refine sg fun K k => ?_
 refine oo ?_
 refine AOps.nil (k _ ?_)
 refine sg fun K k => ?_
 iterate 4 refine oo ?_
 refine AOps.nil (k _ ?_)
 refine AWp.ret ?_
 cases h; exact rt
end Go.Pv.Tryd

namespace Go.Pv.Tryd
open Go.Proofs Go.Pv
theorem m_cocketlaw01_ring_ok (r : (List Offer)) (h : m_cocketlaw01_ring = some r) : RowFn Tryd.prog G 48 [] 43 4 (lenc Offer.pd r) := by
 unfold m_cocketlaw01_ring at h
 refine Fn.pf Tryd.func48 Tryd.ntmps48 ?_
 refine sg fun K k => ?_
 refine oo ?_
 refine AOps.nil (k _ ?_)
 refine sg fun K k => ?_
 iterate 5 refine oo ?_
 refine AOps.nil (k _ ?_)
 refine AWp.ret ?_
 cases h; exact rtRow
end Go.Pv.Tryd

namespace Go.Pv.Tryd
open Go.Proofs Go.Pv
theorem m_rate_market_has_ok (m1 : Market) (c1 : Int) (r : Bool) (h : m_rate_market_has m1 c1 = some r) : PureFn Tryd.prog G 53 [.d (.agg [(.int .i64 m1.n), (.imm 4 (lenc Offer.pd m1.offers))]), .d (.int .i64 c1)] (.d (.bool r)) := by
 unfold m_rate_market_has at h
 refine pf Tryd.func53 Tryd.ntmps53 ?_
 refine sg fun K k => ?_
 iterate 2 refine oo ?_
 refine AOps.nil (k _ ?_)
 refine sg fun K k => ?_
 iterate 3 refine oo ?_
 refine ct 5 [4] [] (fun  t => (12, .d (.bool ((decide (0 ≤ c1)) && (decide (c1 < m1.n))))) :: t) ?_ ?_
 ·rcases bt (decide (0 ≤ c1)) with hg_2 | hg_2
  ·rw [hg_2]
   iterate 5 refine oo ?_
   refine AOps.nil ?_
   exact sb
  ·rw [hg_2]
   iterate 5 refine oo ?_
   refine AOps.nil ?_
   exact sb
 refine oo ?_
 refine AOps.nil (k _ ?_)
 refine AWp.ret ?_
 cases h; exact rt
end Go.Pv.Tryd

namespace Go.Pv.Tryd
open Go.Proofs Go.Pv
theorem m_rate_of_1_ok (v1 : Int) (r : Bool) (h : m_rate_of_1 v1 = some r) : PureFn Tryd.prog G 79 [.d (.int .i64 v1)] (.d (.bool r)) := by
 unfold m_rate_of_1 at h
 refine pf Tryd.func79 Tryd.ntmps79 ?_
 refine sg fun K k => ?_
 refine oo ?_
 refine AOps.nil (k _ ?_)
 refine sg fun K k => ?_
 iterate 3 refine oo ?_
 refine ct 3 [2] [] (fun  t => (8, .d (.bool ((decide (1 ≤ v1)) && (decide (v1 ≤ 50))))) :: t) ?_ ?_
 ·rcases bt (decide (1 ≤ v1)) with hg_2 | hg_2
  ·rw [hg_2]
   iterate 3 refine oo ?_
   refine AOps.nil ?_
   exact sb
  ·rw [hg_2]
   iterate 3 refine oo ?_
   refine AOps.nil ?_
   exact sb
 refine oo ?_
 refine AOps.nil (k _ ?_)
 refine AWp.ret ?_
 cases h; exact rt
end Go.Pv.Tryd

namespace Go.Pv.Tryd
open Go.Proofs Go.Pv
theorem m_rate_of_ok (n1 : Int) (offers1 : (List Offer)) (r : (Market × Int)) (h : m_rate_of n1 offers1 = some r) : PureFn Tryd.prog G 52 [.d (.int .i64 n1), .d (.imm 4 (lenc Offer.pd offers1))] (.tuple [.d (.agg [(.int .i64 r.1.n), (.imm 4 (lenc Offer.pd r.1.offers))]), .d (.int .i64 r.2)]) := by
 unfold m_rate_of at h
 refine pf Tryd.func52 Tryd.ntmps52 ?_
 refine sg fun K k => ?_
 iterate 2 refine oo ?_
 refine AOps.nil (k _ ?_)
 refine AWp.seq fun _ K_1 => ?_
 refine AWp.block ?_
 refine sg fun K k => ?_
 iterate 3 refine oo ?_
 refine ct 3 [0, 1, 4] [1000] (fun  t => (16, .d (.bool ((decide (n1 < 2)) || (decide (6 < n1))))) :: t) ?_ ?_
 ·rcases bt (decide (n1 < 2)) with hg_3 | hg_3
  ·rw [hg_3]
   iterate 3 refine oo ?_
   refine AOps.nil ?_
   exact sb
  ·rw [hg_3]
   iterate 3 refine oo ?_
   refine AOps.nil ?_
   exact sb
 refine oo ?_
 refine AOps.nil (k _ ?_)
 refine cd h (fun h => ?_) (fun h => ?_)
 ·refine sg fun K k => ?_
  iterate 3 refine oo ?_
  refine AOps.nil (k _ ?_)
  refine AWp.ret ?_
  cases h; exact rt
 ·refine sg fun K k => ?_
  iterate 4 refine oo ?_
  refine AOps.nil (k _ ?_)
  refine cd h (fun h => ?_) (fun h => ?_)
  ·refine sg fun K k => ?_
   iterate 3 refine oo ?_
   refine AOps.nil (k _ ?_)
   refine AWp.ret ?_
   cases h; exact rt
  ·refine AWp.skip ?_
   refine K_1 _ ?_
   refine sg fun K k => ?_
   iterate 5 refine oo ?_
   refine AOps.nil (k _ ?_)
   refine sg fun K k => ?_
   refine oo ?_
   refine AOps.nil (k _ ?_)
   refine jm (ι := Market) [6] [1001] (fun i t => (4, .ptr 1000 0 0) :: t) (fun i t => (1000, ⟨77, 2, [.d (.agg [(.int .i64 i.n), (.imm 4 (lenc Offer.pd i.offers))])]⟩) :: t) .inl h ?_ ?_
   ·intro _ hj_7 h
    refine sg fun K k => ?_
    iterate 3 refine oo ?_
    refine AOps.nil (k _ ?_)
    refine AWp.block ?_
    obtain ⟨x_12, hl_9, h2_10⟩ := bind_some hj_7
    refine lp (S := (Int × Market)) [6, 7, 26, 27] [1001] (fun i t => (4, .ptr 1000 0 0) :: (28, .d (.int .i64 i.1)) :: t) (fun i t => (1000, ⟨77, 2, [.d (.agg [(.int .i64 i.2.n), (.imm 4 (lenc Offer.pd i.2.offers))])]⟩) :: t) hl_9 ?_ ?_; exact sch; clear hl_9
    rintro ⟨v1, c2⟩ _ hb_11; unfold m_rate_of_l1 at hb_11; try dsimp only at hb_11
    try dsimp only
    refine sg fun K k => ?_
    refine oo ?_
    refine AOps.nil (k _ ?_)
    refine AWp.seq fun _ K_14 => ?_
    refine cd hb_11 (fun hb_11 => ?_) (fun hb_11 => ?_)
    ·refine AWp.skip ?_
     refine K_14 _ ?_
     refine AWp.seq fun _ K_16 => ?_
     refine AWp.block ?_
     refine sg fun K k => ?_
     obtain ⟨e1, ⟨f_17, f_18, f_19, f_20⟩, hb_11⟩ := idx_bind hb_11
     refine oo ?_
     refine oo ?_ (by intro K k; simp (disch := omega) only [go_sem, f_19, ↓reduceIte]; exact k)
     iterate 2 refine oo ?_
     refine AOps.nil (k _ ?_)
     refine sg fun K k => ?_
     iterate 3 refine oo ?_
     obtain ⟨r1, hx_21, hb_11⟩ := bind_some hb_11
     refine cl (m_rate_market_has_ok (⟨n1, offers1⟩ : Market) e1.From _ hx_21) ?_
     iterate 2 refine oo ?_
     obtain ⟨b1, hc_22, hb_11⟩ := bind_some hb_11
     refine ct 6 [4, 6, 7, 9, 26, 27, 28] [1000, 1001, 1002] (fun  t => (43, .d (.bool b1)) :: t) ?_ ?_
     ·rcases bt (!r1) with hg_24 | hg_24
      ·rw [hg_24]
       rw [hg_24, cond_true] at hc_22
       iterate 6 refine oo ?_
       refine AOps.nil ?_
       cases hc_22
       exact sb
      ·rw [hg_24]
       rw [hg_24, cond_false] at hc_22
       iterate 3 refine oo ?_
       obtain ⟨r2, hx_23, hc_22⟩ := bind_some hc_22
       refine cl (m_rate_market_has_ok (⟨n1, offers1⟩ : Market) e1.To _ hx_23) ?_
       iterate 2 refine oo ?_
       refine AOps.nil ?_
       cases hc_22
       exact sb
     refine oo ?_
     refine ct 6 [4, 6, 7, 9, 26, 27, 28] [1000, 1001, 1002] (fun  t => (50, .d (.bool (b1 || (decide (e1.From = e1.To))))) :: t) ?_ ?_
     ·rcases bt b1 with hg_26 | hg_26
      ·rw [hg_26]
       iterate 6 refine oo ?_
       refine AOps.nil ?_
       exact sb
      ·rw [hg_26]
       iterate 6 refine oo ?_
       refine AOps.nil ?_
       exact sb
     refine oo ?_
     obtain ⟨b2, hc_27, hb_11⟩ := bind_some hb_11
     refine ct 6 [4, 6, 7, 9, 26, 27, 28] [1000, 1001, 1002] (fun  t => (57, .d (.bool b2)) :: t) ?_ ?_
     ·rcases bt (b1 || (decide (e1.From = e1.To))) with hg_29 | hg_29
      ·rw [hg_29]
       rw [hg_29, cond_true] at hc_27
       iterate 6 refine oo ?_
       refine AOps.nil ?_
       cases hc_27
       exact sb
      ·rw [hg_29]
       rw [hg_29, cond_false] at hc_27
       iterate 3 refine oo ?_
       obtain ⟨r3, hx_28, hc_27⟩ := bind_some hc_27
       refine clV (m_rate_of_1_ok e1.Num _ hx_28) ?_
       iterate 2 refine oo ?_
       refine AOps.nil ?_
       cases hc_27
       exact sb
     refine oo ?_
     obtain ⟨b3, hc_30, hb_11⟩ := bind_some hb_11
     refine ct 6 [4, 6, 7, 26, 27, 28] [1000, 1001] (fun  t => (64, .d (.bool b3)) :: t) ?_ ?_
     ·rcases bt b2 with hg_32 | hg_32
      ·rw [hg_32]
       rw [hg_32, cond_true] at hc_30
       iterate 6 refine oo ?_
       refine AOps.nil ?_
       cases hc_30
       exact sb
      ·rw [hg_32]
       rw [hg_32, cond_false] at hc_30
       iterate 3 refine oo ?_
       obtain ⟨r4, hx_31, hc_30⟩ := bind_some hc_30
       refine clV (m_rate_of_1_ok e1.Den _ hx_31) ?_
       iterate 2 refine oo ?_
       refine AOps.nil ?_
       cases hc_30
       exact sb
     refine AOps.nil (k _ ?_)
     refine cd hb_11 (fun hb_11 => ?_) (fun hb_11 => ?_)
     ·refine sg fun K k => ?_
      iterate 3 refine oo ?_
      refine AOps.nil (k _ ?_)
      refine AWp.ret ?_
      refine lx hb_11 fun hx => ?_; cases hx; try dsimp only at h2_10
      cases h2_10; try dsimp only at h
      cases h; exact rt
     ·refine AWp.skip ?_
      refine K_16 _ ?_
      refine AWp.reg ?_
      iterate 2 refine oo ?_
      refine AOps.nil ?_
      exact ln hb_11 sb
    ·refine AWp.exit ?_
     refine lx hb_11 fun hx => ?_; cases hx; try dsimp only at h2_10
     exact ln h2_10 sb
   ·rintro c1 h; dsimp only at h ⊢
    refine sg fun K k => ?_
    iterate 3 refine oo ?_
    refine AOps.nil (k _ ?_)
    refine AWp.ret ?_
    cases h; exact rt
end Go.Pv.Tryd

namespace Go.Pv.Tryd
open Go.Proofs Go.Pv
theorem m_rate_gcd_ok (a1 : Int) (b1 : Int) (r : Int) (h : m_rate_gcd a1 b1 = some r) : PureFn Tryd.prog G 67 [.d (.int .i64 a1), .d (.int .i64 b1)] (.d (.int .i64 r)) := by
 unfold m_rate_gcd at h
 refine pf Tryd.func67 Tryd.ntmps67 ?_
 refine sg fun K k => ?_
 refine oo ?_
 refine AOps.nil (k _ ?_)
 refine jn (α := Int) [] [] (fun i t => (0, .d (.int .i64 i)) :: t) (fun i t => t) h ?_ ?_
 ·intro _ hj_2
  refine AWp.block ?_
  obtain ⟨x_7, hl_4, h2_5⟩ := bind_some hj_2
  refine lp (S := (Int × Int)) [] [] (fun i t => (0, .d (.int .i64 i.1)) :: (1, .d (.int .i64 i.2)) :: t) (fun i t => t) hl_4 ?_ ?_; exact sb; clear hl_4
  rintro ⟨a3, b2⟩ _ hb_6; unfold m_rate_gcd_l1 at hb_6; try dsimp only at hb_6
  try dsimp only
  refine AWp.seq fun _ K_9 => ?_
  refine sg fun K k => ?_
  iterate 2 refine oo ?_
  refine AOps.nil (k _ ?_)
  refine cd hb_6 (fun hb_6 => ?_) (fun hb_6 => ?_)
  ·refine AWp.skip ?_
   refine K_9 _ ?_
   refine AWp.block ?_
   refine AWp.draw mo [] trivial ?_
   obtain ⟨hg_11, hb_6⟩ := guardO_some hb_6
   iterate 6 refine dd ?_
   refine DOps.nil (by kernel_rfl) ?_
   exact ln hb_6 sb
  ·refine AWp.exit ?_
   refine lx hb_6 fun hx => ?_; cases hx; try dsimp only at h2_5
   cases h2_5; exact sb
 ·rintro a2 h; dsimp only at h ⊢
  refine sg fun K k => ?_
  iterate 2 refine oo ?_
  refine AOps.nil (k _ ?_)
  refine AWp.ret ?_
  cases h; exact rt
end Go.Pv.Tryd

namespace Go.Pv.Tryd
open Go.Proofs Go.Pv
theorem m_rate_ratio_ok (a1 : Int) (b1 : Int) (r : Ratio) (h : m_rate_ratio a1 b1 = some r) : PureFn Tryd.prog G 62 [.d (.int .i64 a1), .d (.int .i64 b1)] (.d (.agg [(.int .i64 r.Num), (.int .i64 r.Den)])) := by
 unfold m_rate_ratio at h
 refine pf Tryd.func62 Tryd.ntmps62 ?_
 refine sg fun K k => ?_
 refine oo ?_
 refine AOps.nil (k _ ?_)
 refine sg fun K k => ?_
 iterate 2 refine oo ?_
 obtain ⟨r1, hx_1, h⟩ := bind_some h
 refine cl (m_rate_gcd_ok a1 b1 _ hx_1) ?_
 refine oo ?_
 refine AOps.nil (k _ ?_)
 refine sd mo fun K k => ?_
 obtain ⟨hg_2, h⟩ := guardO_some h
 obtain ⟨hg_3, h⟩ := guardO_some h
 iterate 8 refine dd ?_
 refine DOps.nil (by kernel_rfl) (k _ ?_)
 refine AWp.ret ?_
 cases h; exact rt
end Go.Pv.Tryd

namespace Go.Pv.Tryd
open Go.Proofs Go.Pv
theorem m_rate_times_ok (a1 : Ratio) (b1 : Ratio) (r : Ratio) (h : m_rate_times a1 b1 = some r) : PureFn Tryd.prog G 59 [.d (.agg [(.int .i64 a1.Num), (.int .i64 a1.Den)]), .d (.agg [(.int .i64 b1.Num), (.int .i64 b1.Den)])] (.d (.agg [(.int .i64 r.Num), (.int .i64 r.Den)])) := by
 unfold m_rate_times at h
 refine pf Tryd.func59 Tryd.ntmps59 ?_
 refine sg fun K k => ?_
 iterate 3 refine oo ?_
 refine AOps.nil (k _ ?_)
 refine sd mo fun K k => ?_
 iterate 4 refine dd ?_
 obtain ⟨r1, hx_1, h⟩ := bind_some h
 refine dcl (m_rate_gcd_ok a1.Num b1.Den _ hx_1) ?_
 iterate 4 refine dd ?_
 obtain ⟨r2, hx_2, h⟩ := bind_some h
 refine dcl (m_rate_gcd_ok b1.Num a1.Den _ hx_2) ?_
 iterate 2 refine dd ?_
 refine DOps.nil (by kernel_rfl) (k _ ?_)
 refine sd mo fun K k => ?_
 obtain ⟨hg_3, h⟩ := guardO_some h
 obtain ⟨hg_4, h⟩ := guardO_some h
 obtain ⟨hg_5, h⟩ := guardO_some h
 obtain ⟨hg_6, h⟩ := guardO_some h
 iterate 20 refine dd ?_
 refine DOps.nil (by kernel_rfl) (k _ ?_)
 refine AWp.ret ?_
 cases h; exact rt
end Go.Pv.Tryd



set_option linter.unusedSimpArgs false
set_option linter.unusedVariables false
namespace Go.Pv.Tryd
open Go.Proofs Go.Pv
theorem clone_fn (l : List Int) (hl : l.length ≤ 1000) : RowFn Tryd.prog G 96 [.d (lstD 1 (lenc (PD.int .i64) l))] 3 1 (lenc (PD.int .i64) l) := by
  refine Fn.intro Tryd.func96 (by rfl) (by rw [Tryd.ntmps96]; simp) ?_
  rw [Tryd.ntmps96]
  simp only [argEnv, ↓reduceIte]
  refine AWp.seq fun K hK => AWp.reg ?_
  iterate 1 (refine AOps.consU fun K' hK' => ?_; simp (disch := omega) only [go_sem, ↓reduceIte]; refine hK' _ ?_; clear hK' K')
  refine AOps.nil ?_
  simp only [Post.then]
  refine hK _ ?_; clear hK K
  refine AWp.seq fun K hK => ?_
  refine AWp.seq fun K2 hK2 => AWp.reg ?_
  iterate 2 (refine AOps.consU fun K' hK' => ?_; simp (disch := omega) only [go_sem, ↓reduceIte]; refine hK' _ ?_; clear hK' K')
  refine AOps.nil ?_
  simp only [Post.then]
  refine hK2 _ ?_; clear hK2 K2
  refine AWp.cond (b := l.isEmpty) (by rfl) (fun hb => ?_) (fun hb => ?_)
  · have hl0 : l = [] := by simpa using hb
    subst hl0
    refine AWp.seq fun K2 hK2 => AWp.reg ?_
    iterate 1 (refine AOps.consU fun K' hK' => ?_; simp (disch := omega) only [go_sem, ↓reduceIte]; refine hK' _ ?_; clear hK' K')
    refine AOps.nil ?_
    simp only [Post.then]
    refine hK2 _ ?_; clear hK2 K2
    refine AWp.sub (Sub.void 2 3 1 1000 (by rfl) (by rfl) (by omega) (by omega)) ?_
    refine AWp.ret ?_
    simp only [Post.then, Post.inBlock, Go.Pv.Fin, Go.Pv.FinG]
    refine ⟨.slc 1000 0 0, ?_, by first | exact True.intro | rfl, by first | exact True.intro | rfl, by first | exact True.intro | rfl⟩
    simp only [go_sem, Tryd.results96, ↓reduceIte]
  · refine AWp.skip ?_
    simp only [Post.then, Post.inBlock]
    refine hK _ ?_; clear hK K
    refine AWp.seq fun K hK => AWp.reg ?_
    refine AOps.consU fun K' hK' => ?_; simp (disch := omega) only [go_sem, ↓reduceIte]; refine hK' _ ?_; clear hK' K'
    refine AOps.consU fun K' hK' => ?_; simp (disch := omega) only [go_sem, ↓reduceIte]; refine hK' _ ?_; clear hK' K'
    have e : lstD 1 (lenc (PD.int .i64) l) = .imm 1 (lenc (PD.int .i64) l) := by
      cases l with
      | nil => simp at hb
      | cons x l => rfl
    rw [e]
    iterate 2 (refine AOps.consU fun K' hK' => ?_; simp (disch := omega) only [go_sem, ↓reduceIte]; refine hK' _ ?_; clear hK' K')
    refine AOps.nil ?_
    simp only [Post.then]
    refine hK _ ?_; clear hK K
    refine AWp.ret ?_
    simp only [Post.then, Post.inBlock, Go.Pv.Fin, Go.Pv.FinG]
    refine ⟨.slc 1000 0 l.length, ?_, by first | exact True.intro | rfl, ?_, by first | exact True.intro | rfl⟩
    · simp only [go_sem, Tryd.results96, ↓reduceIte]
    · rw [lenc_length]
def capsOn (m : Market) (frm length : Int) (rounds : Bool) : List PV := [.dptr 1 [.int .i64 length] 0 0, .dptr 1 [.int .i64 frm] 0 0, .dptr 1 [.bool rounds] 0 0, .ptr 1 0 0, .ptr 2 0 0, .dptr 2 [Market.pd m] 0 0, .ptr 4 0 0]
def heapOn (m : Market) (frm length : Int) (rounds : Bool) (l n : Nat) (s : List Bool) : Heap :=
  [(1, ⟨127, 1, [.d (.fn (.yield l))]⟩), (2, ⟨128, 1, [.slc 3 0 n]⟩), (3, ⟨4, 1, dl (lenc PD.bool s)⟩), (4, ⟨127, 1, [.func (.func 94) (capsOn m frm length rounds)]⟩)]
theorem reset_fn (n : Nat) (s : List Bool) (w : Walk) (g : Gh) (hg : g.isSome = true) (hn : s.length = n) (h0 : 0 ≤ w.to ∧ w.to < n) :
    FnD Tryd.prog G 95 [.ptr 1 0 0, .ptr 2 0 0] [(1, ⟨128, 1, [.slc 3 0 n]⟩), (3, ⟨4, 1, dl (lenc PD.bool s)⟩), (2, ⟨83, 4, [.d w.pd]⟩)] g
      fun _ H' g' => H' = [(1, ⟨128, 1, [.slc 3 0 n]⟩), (3, ⟨4, 1, dl (lenc PD.bool (s.set w.to.toNat false))⟩), (2, ⟨83, 4, [.d w.pd]⟩)] ∧ g' = g := by
  refine FnD.intro Tryd.func95 (by rfl) (by rw [Tryd.ntmps95]; simp) ?_
  rw [Tryd.ntmps95]
  simp only [argEnv, ↓reduceIte, Nat.reduceAdd]
  have h1 : w.to.toNat < s.length := by omega
  have h2 : s[w.to.toNat]? = some s[w.to.toNat] := List.getElem?_eq_getElem h1
  refine AWp.reg ?_
  iterate 5 (refine AOps.consU fun K' hK' => ?_; simp (disch := omega) only [go_sem, h2, ↓reduceIte]; refine hK' _ ?_; clear hK' K')
  refine AOps.nil ?_
  show FinD _ _ _ _ _ _
  simp only [FinD]
  refine ⟨.tuple [], ?_, by first | exact True.intro | rfl, hg, by first | exact True.intro | rfl, by first | exact True.intro | rfl⟩
  simp only [go_sem, Tryd.results95, ↓reduceIte]
end Go.Pv.Tryd

set_option linter.unusedSimpArgs false
set_option linter.unusedVariables false
namespace Go.Pv.Tryd
open Go.Proofs Go.Pv
def OnPost (ys : List PD) (H : Heap) (l : Nat) (all xs : List PD) : PV → Heap → Gh → Prop := fun p H' g' =>
  H' = H ∧ ((p = .d (.bool true) ∧ g' = some (l, all, xs ++ ys, true)) ∨ ∃ part rest, ys = part ++ rest ∧ p = .d (.bool false) ∧ g' = some (l, all, xs ++ part, false))
def OnPost0 (ys : List PD) (H : Heap) (l : Nat) (all xs : List PD) : PV → Heap → Gh → Prop := fun p H' g' =>
  heapLe H H' ∧ ((p = .d (.bool true) ∧ g' = some (l, all, xs ++ ys, true)) ∨ ∃ part rest, ys = part ++ rest ∧ p = .d (.bool false) ∧ g' = some (l, all, xs ++ part, false))
theorem heapOn_refs (m : Market) (frm length : Int) (rounds : Bool) (l n : Nat) (s : List Bool) : heapRefs (heapOn m frm length rounds l n s) (heapOn m frm length rounds l n s) := by
  simp only [heapOn, capsOn, go_sem, ↓reduceIte]
theorem on_less {f : FuncId} {args : List PV} {g : Gh} {m : Market} {frm length : Int} {rounds : Bool} {l n : Nat} {s : List Bool} {all xs ys : List PD} {H0 : Heap} (h : FnG Tryd.prog G f args H0 g (OnPost0 ys (heapOn m frm length rounds l n s) l all xs)) :
    FnG Tryd.prog G f args H0 g (OnPost ys (heapOn m frm length rounds l n s) l all xs) := by
  refine h.less fun p H' g' h => ⟨_, h.1, heapOn_refs .., ?_, rfl, h.2⟩
  rcases h.2 with ⟨rfl, _⟩ | ⟨_, _, _, rfl, _⟩ <;> exact trivial
structure OnOk (m : Market) (length : Int) (w : Walk) (s : List Bool) (k : Nat) : Prop where
  k1 : w.list.length + k = length.toNat + 1
  k2 : 1 ≤ k
  len : s.length = m.n.toNat
  to1 : 0 ≤ w.to
  to2 : w.to < m.n
  num1 : 1 ≤ w.rate.Num
  num2 : w.rate.Num ≤ 50 ^ w.list.length
  den1 : 1 ≤ w.rate.Den
  den2 : w.rate.Den ≤ 50 ^ w.list.length
  free : s[w.to.toNat]? = some false ∨ (w.list.length : Int) = length
theorem on_end (m : Market) (frm length : Int) (rounds : Bool) (l : Nat) (all : List PD) (k : Nat) (w : Walk) (s : List Bool) (xs : List PD) (hk : OnOk m length w s (k + 1)) (he : (w.list.length : Int) = length)
    (hall : xs ++ lenc Walk.pd (walkOn m.offers frm length rounds (k + 1) w s) <+: all) :
    FnG Tryd.prog G 94 (.d w.pd :: capsOn m frm length rounds) (heapOn m frm length rounds l m.n.toNat s) (some (l, all, xs, true)) (OnPost (lenc Walk.pd (walkOn m.offers frm length rounds (k + 1) w s)) (heapOn m frm length rounds l m.n.toNat s) l all xs) := by
  have hw : walkOn m.offers frm length rounds (k + 1) w s = if (!(decide (w.to = frm) == rounds)) = true then [] else [w] := by rw [walkOn, if_pos he]
  rw [hw] at hall ⊢
  rcases Bool.eq_false_or_eq_true (!(decide (w.to = frm) == rounds)) with hg | hg
  · rw [if_pos hg] at hall ⊢
    refine on_less ?_
    refine FnG.introD Tryd.func94 (by rfl) (by rw [Tryd.ntmps94]; simp [capsOn]) ?_
    rw [Tryd.ntmps94]
    simp only [argEnv, capsOn, heapOn, Nat.reduceAdd]
    refine AWp.seq fun K hK => AWp.reg ?_
    iterate 2 (refine AOps.consU fun K' hK' => ?_; simp (disch := omega) only [go_sem, ↓reduceIte]; refine hK' _ ?_; clear hK' K')
    refine AOps.nil ?_
    simp only [Post.then]
    refine hK _ ?_; clear hK K
    refine AWp.seq fun K hK => ?_
    refine AWp.seq fun K2 hK2 => AWp.reg ?_
    iterate 5 (refine AOps.consU fun K' hK' => ?_; simp (disch := omega) only [go_sem, ↓reduceIte]; refine hK' _ ?_; clear hK' K')
    refine AOps.nil ?_
    simp only [Post.then]
    refine hK2 _ ?_; clear hK2 K2
    refine AWp.cond (b := decide ((w.list.length : Int) = length)) (by rfl) (fun hb => ?_) (fun hb => ?_)
    · refine AWp.seq fun K2 hK2 => AWp.reg ?_
      iterate 7 (refine AOps.consU fun K' hK' => ?_; simp (disch := omega) only [go_sem, ↓reduceIte]; refine hK' _ ?_; clear hK' K')
      rw [hg]
      iterate 5 (refine AOps.consU fun K' hK' => ?_; simp (disch := omega) only [go_sem, ↓reduceIte]; refine hK' _ ?_; clear hK' K')
      refine AOps.nil ?_
      simp only [Post.then]
      refine hK2 _ ?_; clear hK2 K2
      refine AWp.ret ?_
      simp only [Post.then, Fin1]
      refine .inl ⟨.d (.bool true), ?_, by first | exact True.intro | rfl, ⟨rfl, rfl, rfl, rfl, trivial⟩, .inl ⟨rfl, ?_⟩⟩
      · simp only [go_sem, Tryd.results94, ↓reduceIte]
      · show _ = some (l, all, xs ++ lenc Walk.pd [], true)
        simp [lenc]
    · exact absurd he (by simpa using hb)
  · rw [if_neg (by simp [hg])] at hall ⊢
    refine on_less ?_
    refine FnG.introD Tryd.func94 (by rfl) (by rw [Tryd.ntmps94]; simp [capsOn]) ?_
    rw [Tryd.ntmps94]
    simp only [argEnv, capsOn, heapOn, Nat.reduceAdd]
    refine AWp.seq fun K hK => AWp.reg ?_
    iterate 2 (refine AOps.consU fun K' hK' => ?_; simp (disch := omega) only [go_sem, ↓reduceIte]; refine hK' _ ?_; clear hK' K')
    refine AOps.nil ?_
    simp only [Post.then]
    refine hK _ ?_; clear hK K
    refine AWp.seq fun K hK => ?_
    refine AWp.seq fun K2 hK2 => AWp.reg ?_
    iterate 5 (refine AOps.consU fun K' hK' => ?_; simp (disch := omega) only [go_sem, ↓reduceIte]; refine hK' _ ?_; clear hK' K')
    refine AOps.nil ?_
    simp only [Post.then]
    refine hK2 _ ?_; clear hK2 K2
    refine AWp.cond (b := decide ((w.list.length : Int) = length)) (by rfl) (fun hb => ?_) (fun hb => ?_)
    · refine AWp.seq fun K2 hK2 => AWp.reg ?_
      iterate 7 (refine AOps.consU fun K' hK' => ?_; simp (disch := omega) only [go_sem, ↓reduceIte]; refine hK' _ ?_; clear hK' K')
      rw [hg]
      iterate 2 (refine AOps.consU fun K' hK' => ?_; simp (disch := omega) only [go_sem, ↓reduceIte]; refine hK' _ ?_; clear hK' K')
      refine AOps.consC (by simp only [go_sem, ↓reduceIte]) fun K' hK' => ?_
      simp (disch := omega) only [go_sem, ↓reduceIte]
      refine OpT.yield (x := Walk.pd w) (by rfl) (by rfl) (by rfl) (by rfl) (by rfl) (by rfl) (by simpa [lenc] using hall) (by simp only [go_sem, ↓reduceIte]) fun b => ?_
      simp only [go_sem, ↓reduceIte]; refine hK' _ ?_; clear hK' K'
      iterate 2 (refine AOps.consU fun K' hK' => ?_; simp (disch := omega) only [go_sem, ↓reduceIte]; refine hK' _ ?_; clear hK' K')
      refine AOps.nil ?_
      simp only [Post.then]
      refine hK2 _ ?_; clear hK2 K2
      refine AWp.ret ?_
      simp only [Post.then, Fin1]
      cases b with
      | true =>
        refine .inl ⟨.d (.bool true), ?_, by first | exact True.intro | rfl, ⟨rfl, rfl, rfl, rfl, trivial⟩, .inl ⟨rfl, ?_⟩⟩
        · simp only [go_sem, Tryd.results94, ↓reduceIte]
        · rfl
      | false =>
        refine .inl ⟨.d (.bool false), ?_, by first | exact True.intro | rfl, ⟨rfl, rfl, rfl, rfl, trivial⟩, .inr ⟨lenc Walk.pd [w], [], by simp, rfl, ?_⟩⟩
        · simp only [go_sem, Tryd.results94, ↓reduceIte]
        · rfl
    · exact absurd he (by simpa using hb)
end Go.Pv.Tryd

set_option linter.unusedSimpArgs false
set_option linter.unusedVariables false
namespace Go.Pv.Tryd
open Go.Proofs Go.Pv
def heapIn (m : Market) (frm length : Int) (rounds : Bool) (l n : Nat) (s : List Bool) (w : Walk) : Heap :=
  [(1, ⟨127, 1, [.d (.fn (.yield l))]⟩), (2, ⟨128, 1, [.slc 3 0 n]⟩), (3, ⟨4, 1, dl (lenc PD.bool s)⟩), (4, ⟨127, 1, [.func (.func 94) (capsOn m frm length rounds)]⟩), (1000, ⟨83, 4, [.d w.pd]⟩)]
theorem on_leave {env : List (Nat × PV)} {c : Bool} (h9 : eget env 9 = .d (.bool c)) {m : Market} {frm length : Int} {rounds : Bool} {l : Nat} {s : List Bool} {w : Walk} {g : Gh} (hg : g.isSome = true) (hs : s.length = m.n.toNat) (h0 : 0 ≤ w.to ∧ w.to < m.n)
    (hf : s[w.to.toNat]? = some false) {R : PV → Heap → Gh → Prop} (hR : R (.d (.bool c)) (heapIn m frm length rounds l m.n.toNat s w) g) :
    Fin1 Tryd.prog G Tryd.f94 R .ret ⟨env, heapIn m frm length rounds l m.n.toNat (s.set w.to.toNat true) w, [.func (.func 95) [.ptr 2 0 0, .ptr 1000 0 0]], g⟩ := by
  have hset : (s.set w.to.toNat true).set w.to.toNat false = s := by
    rw [List.set_set]
    obtain ⟨h1, h2⟩ := List.getElem?_eq_some_iff.1 hf
    rw [← h2, List.set_getElem_self]
  have hres : ∀ (H : Heap) (D : List PV) (g : Gh), resV Tryd.prog G Tryd.f94.results.toList ⟨env, H, D, g⟩ = some (.d (.bool c)) := fun H D g => by
    simp only [go_sem, Tryd.results94, h9, ↓reduceIte]
  simp only [Fin1]
  refine .inr ⟨_, 95, _, [.ptr 1 0 0, .ptr 2 0 0], [(1, ⟨128, 1, [.slc 3 0 m.n.toNat]⟩), (3, ⟨4, 1, dl (lenc PD.bool (s.set w.to.toNat true))⟩), (2, ⟨83, 4, [.d w.pd]⟩)], renOf [(1, 2), (3, 3), (2, 1000)], _, rfl, hg, rfl, by kernel_rfl, Hand.of ?_ ?_, ?_,
    reset_fn m.n.toNat (s.set w.to.toNat true) w g hg (by simpa using hs) ⟨h0.1, by omega⟩, ?_⟩
  · simp only [go_sem, heapIn, Row.ren, renL, PV.ren, dl_ren, Walk.pd, ↓reduceIte]
  · simp only [go_sem, ↓reduceIte]
  · simp only [go_sem, handsOk, handOk, ↓reduceIte]
  · rintro p H' g' ⟨rfl, rfl⟩
    refine ⟨renOf [(1, 2), (3, 3), (2, 1000)], Back.of ?_ ?_ ?_, .d (.bool c), hres _ _ _, ?_⟩
    · simp only [go_sem, Row.ren, renL, PV.ren, dl_ren, dl_length, lenc_length, List.length_set, dl_clean, clean, cleanL, Walk.pd, ↓reduceIte]
    · simp only [go_sem, ↓reduceIte]
    · simp only [go_sem, ↓reduceIte]
    · have e : hmerge (renOf [(1, 2), (3, 3), (2, 1000)]) [(1, ⟨128, 1, [.slc 3 0 m.n.toNat]⟩), (3, ⟨4, 1, dl (lenc PD.bool ((s.set w.to.toNat true).set w.to.toNat false))⟩), (2, ⟨83, 4, [.d w.pd]⟩)] (heapIn m frm length rounds l m.n.toNat (s.set w.to.toNat true) w) = heapIn m frm length rounds l m.n.toNat s w := by
        rw [hset]
        simp only [go_sem, hmerge, heapIn, Row.ren, renL, PV.ren, dl_ren, ↓reduceIte]
      have e2 : ghBack ⟨env, heapIn m frm length rounds l m.n.toNat (s.set w.to.toNat true) w, [.func (.func 95) [.ptr 2 0 0, .ptr 1000 0 0]], g'⟩ g' g' = g' := by cases g' <;> rfl
      rw [e]
      show R _ _ (ghBack _ g' g')
      rw [e2]
      exact hR
end Go.Pv.Tryd

