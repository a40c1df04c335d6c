/- PostStamps answers true for every input, and its arguments read as they did: as its row says (Rows), under the conditions of the row, no more. Part 6 of 8: by one AI agent and its programs; no person has read it. -/
import Derived.Test.YtfdnbokgakjplaaPostStampsA
import Derived.Test.YtfdnbokgakjplaaPostStampsB
import Derived.Test.YtfdnbokgakjplaaPostStampsC
import Derived.Test.YtfdnbokgakjplaaPostStampsD
import Derived.Test.YtfdnbokgakjplaaPostStampsE
set_option linter.unusedSimpArgs false
set_option linter.unusedVariables false
set_option linter.all false

namespace Go.Pv
theorem beq_stamp (a b : Stamp) : ((a.No == b.No) && ((a.Post == b.Post) && (a.Turn == b.Turn))) = decide (a = b) := by
  obtain ⟨a1, a2, a3⟩ := a
  obtain ⟨b1, b2, b3⟩ := b
  rw [Bool.eq_iff_iff]
  simp
theorem lower_eq (a b : Stamp) : m_cocketlaw09_lower a b = some (gtS b a) := by
  unfold m_cocketlaw09_lower gtS
  by_cases h : a.No = b.No
  · have : decide (¬ a.No = b.No) = false := by simp [h]
    rw [this]
    simp only [cond_false]
    congr 1
    rw [Bool.eq_iff_iff]
    simp only [Bool.or_eq_true, Bool.and_eq_true, decide_eq_true_eq]
    omega
  · have : decide (¬ a.No = b.No) = true := by simp [h]
    rw [this]
    simp only [cond_true]
    congr 1
    apply decide_eq_decide.2
    omega
theorem Kept_eq {o : Net} {S} (h : InvN o S) {k : Nat} {p : Pst} (hp : o.posts[k]? = some p) : m_post_Net_Kept_h o k = some (p.stamp, p.value, 0, o) := by
  have hl := (List.getElem?_eq_some_iff.1 hp).1
  unfold m_post_Net_Kept_h
  rw [at_eq h.ne]
  simp only [Option.bind_some]
  rw [if_pos (by omega), idx_nat, hp]; rfl
structure Mem (P P' : List Pst) (j : Nat) (A : List Stamp) (B : List Int) : Prop where
  la : A.length = P'.length
  lb : B.length = P'.length
  lp : P.length = P'.length
  new : ∀ (k : Nat) (p : Pst), k < j → P'[k]? = some p → A[k]? = some p.stamp ∧ B[k]? = some p.value
  old : ∀ (k : Nat) (p : Pst), j ≤ k → P[k]? = some p → A[k]? = some p.stamp ∧ B[k]? = some p.value
theorem Mem.init {P A B} (h : Mem P P P.length A B) {P'} (hl : P.length = P'.length) : Mem P P' 0 A B :=
  ⟨by rw [h.la, hl], by rw [h.lb, hl], hl, fun k p hk => by omega, fun k p _ hp => h.new k p (List.getElem?_eq_some_iff.1 hp).1 hp⟩
theorem l8_step {n1 : Int} {l1 : List Act} {i3 : Int} {a : Act} (ha : idx l1 i3 = some a) {o : Net} {S S'} {P : List Pst} {ms0 C0 c0} (hI0 : Inv P ms0 C0 c0 S) (hI : InvN o S') (hu : Up P S o.posts S') (hn : n1 = (o.posts.length : Int)) (hsame : a.Kind.tmod 12 = 9 ∨ a.Kind.tmod 12 = 10 → Same P o.posts)
    {j : Nat} {A : List Stamp} {B : List Int} (hj : j < o.posts.length) (hm : Mem P o.posts j A B) :
    ∃ A' B', m_cocketlaw09_PostStamps_l8 n1 l1 i3 ((j : Int), o.clock, o.posts, o.messages, o.calls, A, B) = some (.inl (((j + 1 : Nat) : Int), o.clock, o.posts, o.messages, o.calls, A', B')) ∧ Mem P o.posts (j + 1) A' B' := by
  have hp : o.posts[j]? = some o.posts[j] := List.getElem?_eq_getElem hj
  generalize o.posts[j] = p at hp
  have hjo : j < P.length := by rw [hm.lp]; exact hj
  have hq : P[j]? = some P[j] := List.getElem?_eq_getElem hjo
  generalize P[j] = q at hq
  obtain ⟨hA, hB⟩ := hm.old j q (Nat.le_refl _) hq
  have hst := hu.st j q p hq hp
  refine ⟨A.set j p.stamp, B.set j p.value, ?_, ⟨by simp [hm.la], by simp [hm.lb], hm.lp, fun k p2 hk hp2 => ?_, fun k p2 hk hp2 => ?_⟩⟩
  · have h5 := hI.n5
    unfold m_cocketlaw09_PostStamps_l8
    have c1 : decide ((j : Int) < n1) = true := by simp; omega
    have ho : (⟨o.posts, o.messages, o.calls, o.clock⟩ : Net) = o := rfl
    have hw : IntKind.i64.wrap ((j : Int) + 1) = ((j + 1 : Nat) : Int) := by rw [q_wrap (by omega)]; omega
    simp only [c1, cond_true, ho, Kept_eq hI hp, Option.bind_some, ha, not_true, decide_false, cond_false, idx_nat, hA, hB, lower_eq, hst, beq_stamp, hw, Int.toNat_natCast]
    by_cases he : p.stamp = q.stamp
    · have hv : p.value = q.value := hI.fn _ (hI.pst j p hp).val _ (hu.sub _ (hI0.pst j q hq).val) he
      simp only [he, hv, decide_true, cond_true, not_true, decide_false, cond_false, Bool.not_true]
      by_cases hk : (decide (a.Kind.tmod 12 = 9) || decide (a.Kind.tmod 12 = 10)) = true
      · rw [hk]; rfl
      · rw [Bool.not_eq_true] at hk; rw [hk]; rfl
    · have hk : (decide (a.Kind.tmod 12 = 9) || decide (a.Kind.tmod 12 = 10)) = false := by
        rw [← Bool.not_eq_true]
        intro hh
        simp only [Bool.or_eq_true, decide_eq_true_eq] at hh
        exact he (hsame hh j q p hq hp)
      simp only [he, decide_false, cond_false, hk]
  · have hkl : k < o.posts.length := (List.getElem?_eq_some_iff.1 hp2).1
    rw [List.getElem?_set, List.getElem?_set]
    by_cases hkj : j = k
    · subst hkj
      rw [hp] at hp2; cases hp2
      rw [if_pos rfl, if_pos rfl, if_pos (by rw [hm.la]; exact hj), if_pos (by rw [hm.lb]; exact hj)]
      exact ⟨rfl, rfl⟩
    · rw [if_neg hkj, if_neg hkj]
      exact hm.new k p2 (by omega) hp2
  · rw [List.getElem?_set, List.getElem?_set, if_neg (by omega), if_neg (by omega)]
    exact hm.old k p2 (by omega) hp2
theorem l8_loop {n1 : Int} {l1 : List Act} {i3 : Int} {a : Act} (ha : idx l1 i3 = some a) {o : Net} {S S'} {P : List Pst} {ms0 C0 c0} (hI0 : Inv P ms0 C0 c0 S) (hI : InvN o S') (hu : Up P S o.posts S') (hn : n1 = (o.posts.length : Int)) (hsame : a.Kind.tmod 12 = 9 ∨ a.Kind.tmod 12 = 10 → Same P o.posts) :
    ∀ (k j : Nat) (A : List Stamp) (B : List Int), k = o.posts.length - j → j ≤ o.posts.length → Mem P o.posts j A B →
    ∃ A' B', iter (m_cocketlaw09_PostStamps_l8 n1 l1 i3) ((j : Int), o.clock, o.posts, o.messages, o.calls, A, B) = some (.inl (o.clock, o.posts, o.messages, o.calls, A', B')) ∧ Mem o.posts o.posts o.posts.length A' B'
  | 0, j, A, B, hk, hj, hm => by
    have : j = o.posts.length := by omega
    subst this
    refine ⟨A, B, iter_done ?_, ⟨hm.la, hm.lb, rfl, hm.new, fun k p h1 h2 => ?_⟩⟩
    · have c1 : decide ((o.posts.length : Int) < n1) = false := by simp; omega
      simp only [m_cocketlaw09_PostStamps_l8, c1, cond_false]
    · have := (List.getElem?_eq_some_iff.1 h2).1
      omega
  | k + 1, j, A, B, hk, hj, hm => by
    obtain ⟨A1, B1, e1, m1⟩ := l8_step ha hI0 hI hu hn hsame (by omega) hm
    obtain ⟨A2, B2, e2, m2⟩ := l8_loop ha hI0 hI hu hn hsame k (j + 1) A1 B1 (by omega) (by omega) m1
    exact ⟨A2, B2, iter_step e1 e2, m2⟩
def Agree (A : List Stamp) (B : List Int) : Prop := ∀ (p q : Nat) a b x y, A[p]? = some a → A[q]? = some b → B[p]? = some x → B[q]? = some y → a = b → x = y
theorem Mem.agree {o : Net} {S A B} (h : InvN o S) (hm : Mem o.posts o.posts o.posts.length A B) : Agree A B := by
  intro p q a b x y h1 h2 h3 h4 hab
  have hp : p < o.posts.length := by rw [← hm.la]; exact (List.getElem?_eq_some_iff.1 h1).1
  have hq : q < o.posts.length := by rw [← hm.la]; exact (List.getElem?_eq_some_iff.1 h2).1
  have ep := List.getElem?_eq_getElem hp
  have eq := List.getElem?_eq_getElem hq
  obtain ⟨n1, n2⟩ := hm.new p _ hp ep
  obtain ⟨n3, n4⟩ := hm.new q _ hq eq
  rw [n1] at h1; cases h1
  rw [n3] at h2; cases h2
  rw [n2] at h3; cases h3
  rw [n4] at h4; cases h4
  exact h.fn _ (h.pst p _ ep).val _ (h.pst q _ eq).val hab
theorem l10_loop {A : List Stamp} {B : List Int} (h : Agree A B) {p : Nat} (hp : p < A.length) (hl : A.length = B.length) (h5 : A.length ≤ 5) : ∀ (k q : Nat), k = p - q → q ≤ p → iter (m_cocketlaw09_PostStamps_l10 A B (p : Int)) (q : Int) = some (.inl ())
  | 0, q, hk, hq => by
    have : decide ((q : Int) < (p : Int)) = false := by simp; omega
    exact iter_done (by simp only [m_cocketlaw09_PostStamps_l10, this, cond_false])
  | k + 1, q, hk, hq => by
    refine iter_step (s' := ((q + 1 : Nat) : Int)) ?_ (l10_loop h hp hl h5 k (q + 1) (by omega) (by omega))
    have c1 : decide ((q : Int) < (p : Int)) = true := by simp; omega
    have hw : IntKind.i64.wrap ((q : Int) + 1) = ((q + 1 : Nat) : Int) := by rw [q_wrap (by omega)]; omega
    have e1 : A[p]? = some A[p] := List.getElem?_eq_getElem hp
    have hq' : q < A.length := by omega
    have e2 : A[q]? = some A[q] := List.getElem?_eq_getElem hq'
    have hpb : p < B.length := by omega
    have hqb : q < B.length := by omega
    have e3 : B[p]? = some B[p] := List.getElem?_eq_getElem hpb
    have e4 : B[q]? = some B[q] := List.getElem?_eq_getElem hqb
    simp only [m_cocketlaw09_PostStamps_l10, c1, cond_true, idx_nat, e1, e2, e3, e4, Option.bind_some, beq_stamp, hw]
    by_cases he : A[p] = A[q]
    · have := h p q _ _ _ _ e1 e2 e3 e4 he
      simp [he, this]
    · simp [he]
theorem l9_loop {n1 c4 : Int} {P ms C} {A : List Stamp} {B : List Int} (h : Agree A B) (hn : n1 = (A.length : Int)) (hl : A.length = B.length) (h5 : A.length ≤ 5) : ∀ (k p : Nat), k = A.length - p → p ≤ A.length →
    iter (m_cocketlaw09_PostStamps_l9 n1 c4 P ms C A B) (p : Int) = some (.inl (c4, P, ms, C, A, B))
  | 0, p, hk, hp => by
    have : decide ((p : Int) < n1) = false := by simp; omega
    exact iter_done (by simp only [m_cocketlaw09_PostStamps_l9, this, cond_false])
  | k + 1, p, hk, hp => by
    refine iter_step (s' := ((p + 1 : Nat) : Int)) ?_ (l9_loop h hn hl h5 k (p + 1) (by omega) (by omega))
    have c1 : decide ((p : Int) < n1) = true := by simp; omega
    have hw : IntKind.i64.wrap ((p : Int) + 1) = ((p + 1 : Nat) : Int) := by rw [q_wrap (by omega)]; omega
    have := l10_loop h (p := p) (by omega) hl h5 p 0 (by omega) (by omega)
    have e0 : ((0 : Nat) : Int) = 0 := rfl
    rw [e0] at this
    simp only [m_cocketlaw09_PostStamps_l9, c1, cond_true, this, Option.bind_some, hw]
theorem l7_loop {n1 : Int} {l1 : List Act} (hl : l1.length ≤ 120) : ∀ (k i : Nat) (o : Net) (S : Vals) (A : List Stamp) (B : List Int), k = l1.length - i → i ≤ l1.length → InvN o S → n1 = (o.posts.length : Int) → o.clock ≤ 100000 * i → Mem o.posts o.posts o.posts.length A B →
    ∃ o' S' A' B', iter (m_cocketlaw09_PostStamps_l7 n1 l1) ((i : Int), o.clock, o.posts, o.messages, o.calls, A, B) = some (.inl (o'.clock, o'.posts, o'.messages, o'.calls, A', B')) ∧ InvN o' S' ∧ n1 = (o'.posts.length : Int) ∧ Mem o'.posts o'.posts o'.posts.length A' B'
  | 0, i, o, S, A, B, hk, hi, hI, hn, hc, hm => by
    refine ⟨o, S, A, B, iter_done ?_, hI, hn, hm⟩
    have : decide ((i : Int) < (l1.length : Int)) = false := by simp; omega
    simp only [m_cocketlaw09_PostStamps_l7, this, cond_false]
  | k + 1, i, o, S, A, B, hk, hi, hI, hn, hc, hm => by
    have hil : i < l1.length := by omega
    have ea : l1[i]? = some l1[i] := List.getElem?_eq_getElem hil
    obtain ⟨o2, e2, ⟨S2, hI2, hu2, hc2⟩, hs2⟩ := act_ok hI (by omega) l1[i]
    have hn2 : n1 = (o2.posts.length : Int) := by rw [hu2.len]; exact hn
    have hidx : idx l1 (i : Int) = some l1[i] := by rw [idx_nat, ea]
    obtain ⟨A2, B2, e3, m2⟩ := l8_loop hidx hI hI2 hu2 hn2 hs2 o2.posts.length 0 A B rfl (by omega) (hm.init hu2.len.symm)
    have h5 := hI2.n5
    have hag := m2.agree hI2
    have e4 := l9_loop (n1 := n1) (c4 := o2.clock) (P := o2.posts) (ms := o2.messages) (C := o2.calls) hag (by rw [m2.la]; exact hn2) (by rw [m2.la, m2.lb]) (by rw [m2.la]; exact h5) A2.length 0 rfl (by omega)
    obtain ⟨o3, S3, A3, B3, e5, r3⟩ := l7_loop hl k (i + 1) o2 S2 A2 B2 (by omega) (by omega) hI2 hn2 (by omega) m2
    refine ⟨o3, S3, A3, B3, iter_step ?_ e5, r3⟩
    have c1 : decide ((i : Int) < (l1.length : Int)) = true := by simp; omega
    have hw : IntKind.i64.wrap ((i : Int) + 1) = ((i + 1 : Nat) : Int) := by rw [q_wrap (by omega)]; omega
    have ho : (⟨o.posts, o.messages, o.calls, o.clock⟩ : Net) = o := rfl
    have e0 : ((0 : Nat) : Int) = 0 := rfl
    rw [e0] at e3 e4
    simp only [m_cocketlaw09_PostStamps_l7, c1, cond_true, hidx, Option.bind_some, ho, e2, e3, e4, hw]
theorem l12_loop {A : List Stamp} {B : List Int} {r : List Cal × Net} {p : Nat} {s : Stamp} {v : Int} (hA : A[p]? = some s) (hB : B[p]? = some v) (hl : r.1.length ≤ 100) : ∀ (k i : Nat) (b : Bool), k = r.1.length - i → i ≤ r.1.length →
    iter (m_cocketlaw09_PostStamps_l12 A B r (p : Int)) (b, (i : Int)) = some (b || (r.1.drop i).any fun y => y.Write && (decide (y.Post = s.Post) && decide (y.Value = v)))
  | 0, i, b, hk, hi => by
    have : decide ((i : Int) < (r.1.length : Int)) = false := by simp; omega
    rw [List.drop_eq_nil_of_le (by omega)]
    refine iter_done ?_
    simp only [m_cocketlaw09_PostStamps_l12, this, cond_false, List.any_nil, Bool.or_false]
  | k + 1, i, b, hk, hi => by
    have hil : i < r.1.length := by omega
    have e : r.1[i]? = some r.1[i] := List.getElem?_eq_getElem hil
    have c1 : decide ((i : Int) < (r.1.length : Int)) = true := by simp; omega
    have hw : IntKind.i64.wrap ((i : Int) + 1) = ((i + 1 : Nat) : Int) := by rw [q_wrap (by omega)]; omega
    rw [List.drop_eq_getElem_cons hil, List.any_cons]
    have ih := l12_loop hA hB hl k (i + 1) (b || (r.1[i].Write && (decide (r.1[i].Post = s.Post) && decide (r.1[i].Value = v)))) (by omega) (by omega)
    rw [Bool.or_assoc] at ih
    refine iter_step ?_ ih
    simp only [m_cocketlaw09_PostStamps_l12, c1, cond_true, idx_nat, e, hA, hB, Option.bind_some, hw]
    cases b
    · cases h1 : r.1[i].Write
      · simp
      · by_cases h2 : r.1[i].Post = s.Post <;> simp [h2]
    · simp
theorem l11_loop {n1 : Int} {o : Net} {S A B} {o2 : Net} (hI : InvN o S) (hn : n1 = (o.posts.length : Int)) (hm : Mem o.posts o.posts o.posts.length A B) : ∀ (k p : Nat), k = o.posts.length - p → p ≤ o.posts.length →
    iter (m_cocketlaw09_PostStamps_l11 n1 A B (o.calls, o2)) (p : Int) = some (.inl ())
  | 0, p, hk, hp => by
    have : decide ((p : Int) < n1) = false := by simp; omega
    exact iter_done (by simp only [m_cocketlaw09_PostStamps_l11, this, cond_false])
  | k + 1, p, hk, hp => by
    refine iter_step (s' := ((p + 1 : Nat) : Int)) ?_ (l11_loop hI hn hm k (p + 1) (by omega) (by omega))
    have hpl : p < o.posts.length := by omega
    have ep := List.getElem?_eq_getElem hpl
    generalize o.posts[p] = q at ep
    obtain ⟨hA, hB⟩ := hm.new p q hpl ep
    have h5 := hI.n5
    have c1 : decide ((p : Int) < n1) = true := by simp; omega
    have hw : IntKind.i64.wrap ((p : Int) + 1) = ((p + 1 : Nat) : Int) := by rw [q_wrap (by omega)]; omega
    have hx : (cond (decide (q.value = 0)) (some ((q.stamp.No == 0) && ((q.stamp.Post == 0) && (q.stamp.Turn == 0)))) (some false) : Option Bool) = some (decide (q.value = 0) && decide (q.stamp = zeroS)) := by
      have := beq_stamp q.stamp zeroS
      rw [show ((q.stamp.No == 0) && ((q.stamp.Post == 0) && (q.stamp.Turn == 0))) = decide (q.stamp = zeroS) from this]
      cases decide (q.value = 0) <;> rfl
    have hl := l12_loop (r := (o.calls, o2)) hA hB hI.cl o.calls.length 0 (decide (q.value = 0) && decide (q.stamp = zeroS)) rfl (by omega)
    have e0 : ((0 : Nat) : Int) = 0 := rfl
    rw [e0] at hl
    have htrue : ((decide (q.value = 0) && decide (q.stamp = zeroS)) || ((o.calls.drop 0).any fun y => y.Write && (decide (y.Post = q.stamp.Post) && decide (y.Value = q.value)))) = true := by
      rcases (hI.iss _ (hI.pst p q ep).val).src with h1 | ⟨_, _, i, y, h2, h3, h4, h5⟩
      · simp only [Prod.mk.injEq] at h1
        simp [h1.1, h1.2]
      · rw [Bool.or_eq_true]; right
        rw [List.any_eq_true]
        refine ⟨y, List.mem_of_getElem? h2, ?_⟩
        simp only at h4 h5
        simp [h3, h4, h5]
    rw [htrue] at hl
    simp only [m_cocketlaw09_PostStamps_l11, c1, cond_true, idx_nat, hA, hB, Option.bind_some, hx, hl, hw, Bool.not_true, cond_false]
theorem inv0 (n : Nat) (h : 1 ≤ n ∧ n ≤ 5) : InvN ⟨List.replicate n freshP, [], [], 0⟩ [(zeroS, 0)] := by
  have hv : ∀ x ∈ [(zeroS, (0 : Int))], x = (zeroS, 0) := fun x hx => List.mem_singleton.1 hx
  refine ⟨by simpa using h.1, by simpa using h.2, by simp, by simp, Int.le_refl _, fun a ha b hb _ => by rw [hv a ha, hv b hb], by simp, fun x hx => ⟨by rw [hv x hx]; exact ⟨Int.le_refl _, Int.le_refl _⟩, .inl (hv x hx)⟩, fun k p hp => ?_, fun m hm => by cases hm⟩
  have : p = freshP := by
    simp only [List.getElem?_replicate] at hp
    split at hp
    · cases hp; rfl
    · cases hp
  subst this
  exact ⟨List.mem_singleton.2 rfl, ⟨Int.le_refl _, Int.le_refl _⟩, fun w hw => by cases hw⟩
theorem PostStamps_law (n : Int) (l : List Act) : m_cocketlaw09_PostStamps n l = some true := by
  unfold m_cocketlaw09_PostStamps
  by_cases hl : 120 < l.length
  · have : decide (120 < (l.length : Int)) = true := by simp; omega
    rw [this]
    simp only [cond_true, alive_true, Option.bind_some]
  · have : decide (120 < (l.length : Int)) = false := by simp; omega
    rw [this, New_eq]
    simp only [cond_false]
    by_cases hn : 1 ≤ n ∧ n ≤ 5
    · rw [if_pos hn]
      simp only [Option.bind_some, optB, not_true, decide_false, cond_false]
      rw [guardO_pos (by omega), guardO_pos (by omega)]
      have hI := inv0 n.toNat (by omega)
      have hm : Mem (List.replicate n.toNat freshP) (List.replicate n.toNat freshP) (List.replicate n.toNat freshP).length (List.replicate n.toNat (⟨0, 0, 0⟩ : Stamp)) (List.replicate n.toNat (0 : Int)) := by
        have key : ∀ (k : Nat) (p : Pst), (List.replicate n.toNat freshP)[k]? = some p → (List.replicate n.toNat (⟨0, 0, 0⟩ : Stamp))[k]? = some p.stamp ∧ (List.replicate n.toNat (0 : Int))[k]? = some p.value := by
          intro k p hp
          simp only [List.getElem?_replicate] at hp ⊢
          split at hp
          · next hk => cases hp; rw [if_pos hk, if_pos hk]; exact ⟨rfl, rfl⟩
          · cases hp
        exact ⟨by simp, by simp, rfl, fun k p _ hp => key k p hp, fun k p _ hp => key k p hp⟩
      obtain ⟨o', S', A', B', e, hI', hn', hm'⟩ := l7_loop (n1 := n) (l1 := l) (by omega) l.length 0 ⟨List.replicate n.toNat freshP, [], [], 0⟩ _ _ _ rfl (by omega) hI (by simp; omega) (by simp) hm
      have e0 : ((0 : Nat) : Int) = 0 := rfl
      rw [e0] at e
      simp only at e
      rw [e]
      have ho : (⟨o'.posts, o'.messages, o'.calls, o'.clock⟩ : Net) = o' := rfl
      have hcl := hI'.cl
      have e2 := l11_loop (o2 := o') hI' hn' hm' o'.posts.length 0 rfl (by omega)
      rw [e0] at e2
      simp only [Option.bind_some, ho, Calls_eq hI'.ne (by omega), e2, alive_true]
    · rw [if_neg hn]
      simp only [Option.bind_some, optB]
      have : decide (¬ (2 : Int) = 0) = true := by decide
      rw [this]
      simp only [cond_true, alive_true, Option.bind_some]
end Go.Pv

namespace Go.Pv.Try
open Go.Proofs Go.Pv
set_option maxHeartbeats 4000000 in
theorem m_post_New_h_ok (n1 : Int) (r : ((Option Net) × Int)) (h : m_post_New_h n1 = some r) : ObjFn Try.prog G 15 [.d (.int .i64 n1)] [] (.tuple [netRes r.1, .d (.int .i64 r.2)]) (netHeap r.1) := by
 unfold m_post_New_h at h
 refine ObjFn.pf Try.func15 Try.ntmps15 ?_ (hrf := netRefs _ [(.int .i64 r.2)]) (hrh := netRefs2 _)
 refine sg fun K k => ?_
 iterate 2 refine oo ?_
 refine AOps.nil (k _ ?_)
 refine AWp.seq fun _ K_1 => ?_
 refine sg fun K k => ?_
 iterate 3 refine oo ?_
 refine ct 3 [0] [] (fun  t => (10, .d (.bool ((decide (n1 < 1)) || (decide (5 < n1))))) :: t) ?_ ?_
 ·rcases bt (decide (n1 < 1)) with hg_3 | hg_3
  ·rw [hg_3]
   iterate 3 refine oo ?_
   refine AOps.nil ?_
   exact sb
  ·rw [hg_3]
   iterate 3 refine oo ?_
   refine AOps.nil ?_
   exact sb
 refine AOps.nil (k _ ?_)
 refine cd h (fun h => ?_) (fun h => ?_)
 ·refine sg fun K k => ?_
  iterate 2 refine oo ?_
  refine AOps.nil (k _ ?_)
  refine AWp.ret ?_
  cases h; exact rtO
 ·refine AWp.skip ?_
  refine K_1 _ ?_
  refine sg fun K k => ?_
  iterate 3 refine oo ?_
  refine AOps.sub (Sub.voidCell 1000 0 84 7 1001 (x := ⟨67, 4, [.d (.agg [.nilslice, .nilslice, .nilslice, (.int .i64 0)])]⟩) (p := .d (.agg [.nilslice, .nilslice, .nilslice, (.int .i64 0)])) (cs := [.d .nilslice, .d .nilslice, .d .nilslice, .d (.int .i64 0)]) rfl (Nat.le_of_ble_eq_true rfl) rfl rfl rfl rfl rfl (by decide) (by decide)) ?_
  simp only [hput, List.set_cons_succ, List.set_cons_zero, reduceCtorEq, ↓reduceIte, Nat.reduceAdd, Nat.reduceMul, Nat.reduceLT, Nat.reduceLeDiff, Nat.reduceEqDiff, Nat.reduceBEq, Int.reduceToNat]
  refine AOps.sub (none0 Pst.bs) ?_
  refine AOps.sub (Sub.voidCell 1000 1 88 8 1002 (x := ⟨67, 4, [.agg [.slc 1001 0 0, .d .nilslice, .d .nilslice, .d (.int .i64 0)]]⟩) (p := .agg [.slc 1001 0 0, .d .nilslice, .d .nilslice, .d (.int .i64 0)]) (cs := [.slc 1001 0 0, .d .nilslice, .d .nilslice, .d (.int .i64 0)]) (dyBR rfl) (Nat.le_of_ble_eq_true rfl) rfl rfl rfl rfl (dyBR rfl) (by decide) (by decide)) ?_
  simp (disch := decide) only [hput, hput_dynBH, List.set_cons_succ, List.set_cons_zero, reduceCtorEq, ↓reduceIte, Nat.reduceAdd, Nat.reduceMul, Nat.reduceLT, Nat.reduceLeDiff, Nat.reduceEqDiff, Nat.reduceBEq, Int.reduceToNat]
  refine AOps.sub (Sub.voidCell 1000 2 51 5 1003 (x := ⟨67, 4, [.agg [.slc 1001 0 0, .slc 1002 0 0, .d .nilslice, .d (.int .i64 0)]]⟩) (p := .agg [.slc 1001 0 0, .slc 1002 0 0, .d .nilslice, .d (.int .i64 0)]) (cs := [.slc 1001 0 0, .slc 1002 0 0, .d .nilslice, .d (.int .i64 0)]) (dyBR rfl) (Nat.le_of_ble_eq_true rfl) rfl rfl rfl rfl (dyBR rfl) (by decide) (by decide)) ?_
  simp (disch := decide) only [hput, hput_dynBH, List.set_cons_succ, List.set_cons_zero, reduceCtorEq, ↓reduceIte, Nat.reduceAdd, Nat.reduceMul, Nat.reduceLT, Nat.reduceLeDiff, Nat.reduceEqDiff, Nat.reduceBEq, Int.reduceToNat]
  refine AOps.nil (k _ ?_)
  refine jn (α := (List Pst)) [4] [1002, 1003] (fun i t => t) (fun i t => dynBH (blks Pst.bs i) ((1000, ⟨67, 4, [.agg [.slc 1001 0 i.length, .slc 1002 0 0, .slc 1003 0 0, .d (.int .i64 0)]]⟩) :: (1001, ⟨84, 7, nelB Pst.bs i⟩) :: t)) h ?_ ?_
  ·intro _ hj_6
   refine sg fun K k => ?_
   iterate 2 refine oo ?_
   refine AOps.nil (k _ ?_)
   refine AWp.block ?_
   obtain ⟨x_11, hl_8, h2_9⟩ := bind_some hj_6
   refine lp (S := (Int × (List Pst))) [4, 13] [1002, 1003] (fun i t => (14, .d (.int .i64 i.1)) :: t) (fun i t => dynBH (blks Pst.bs i.2) ((1000, ⟨67, 4, [.agg [.slc 1001 0 i.2.length, .slc 1002 0 0, .slc 1003 0 0, .d (.int .i64 0)]]⟩) :: (1001, ⟨84, 7, nelB Pst.bs i.2⟩) :: t)) hl_8 ?_ ?_; exact sbB; clear hl_8
   rintro ⟨v1, L2⟩ _ hb_10; unfold m_post_New_h_l1 at hb_10; try dsimp only at hb_10
   try dsimp only
   refine sg fun K k => ?_
   refine oo ?_
   refine AOps.nil (k _ ?_)
   refine AWp.seq fun _ K_13 => ?_
   refine cd hb_10 (fun hb_10 => ?_) (fun hb_10 => ?_)
   ·refine AWp.skip ?_
    refine K_13 _ ?_
    refine AWp.seq fun _ K_15 => ?_
    refine AWp.block ?_
    refine AWp.reg ?_
    iterate 6 refine oo ?_
    refine ol ?_
    obtain ⟨hg_16, hb_10⟩ := guardO_some hb_10
    iterate 4 refine oo ?_
    refine AOps.nil ?_
    refine K_15 _ ?_
    refine AWp.sub (pshB (S := Pst.bs) 1001 (⟨true, (⟨0, 0, 0⟩ : Stamp), 0, 0, none⟩ : Pst) _ rfl (hl := rfl)) ?_
    refine AWp.sub (τ := ⟨[(4, .ptr 1000 0 0), (13, .d (.int .i64 n1)), (14, .d (.int .i64 v1)), (15, .d (.bool (decide (v1 < n1)))), (16, .ptr 1000 0 0), (17, .ptr 1000 0 0), (18, .ptr 1000 0 0), (19, .ptr 1000 0 0), (21, .d (.agg [(.bool true), (.int .i64 0), (.int .i64 0), (.int .i64 0), (.int .i64 0), (.int .i64 0), .nilptr])), (23, .slc 1001 0 ((L2 ++ [(⟨true, (⟨0, 0, 0⟩ : Stamp), 0, 0, none⟩ : Pst)]).length)), (24, .ptr 1000 0 0), (25, .ptr 1000 0 0)], (dynBH (blks Pst.bs (L2 ++ [(⟨true, (⟨0, 0, 0⟩ : Stamp), 0, 0, none⟩ : Pst)])) ([(1000, ⟨67, 4, [.agg [.slc 1001 0 ((L2 ++ [(⟨true, (⟨0, 0, 0⟩ : Stamp), 0, 0, none⟩ : Pst)]).length), .slc 1002 0 0, .slc 1003 0 0, .d (.int .i64 0)]]⟩), (1001, ⟨84, 7, nelB Pst.bs (L2 ++ [(⟨true, (⟨0, 0, 0⟩ : Stamp), 0, 0, none⟩ : Pst)])⟩), (1002, ⟨88, 8, dl (lenc Msg.pd [])⟩), (1003, ⟨51, 5, dl (lenc Cal.pd [])⟩)])), [], none⟩) sbB ?_
    refine AWp.reg ?_
    iterate 2 refine oo ?_
    refine AOps.nil ?_
    exact ln hb_10 sbB
   ·refine AWp.exit ?_
    refine lx hb_10 fun hx => ?_; cases hx; try dsimp only at h2_9
    cases h2_9; exact sbB
  ·rintro L1 h; dsimp only at h ⊢
   refine sg fun K k => ?_
   iterate 3 refine oo ?_
   refine AOps.nil (k _ ?_)
   refine AWp.ret ?_
   cases h; exact rtO
theorem m_post_New_h_none (n1 : Int) (r : ((Option Net) × Int)) (h : m_post_New_h n1 = some r) (hw : r.1 = none) : ObjFn Try.prog G 15 [.d (.int .i64 n1)] [] (.tuple [.d .nilptr, .d (.int .i64 r.2)]) [] := by
  have h1 := m_post_New_h_ok n1 r h
  rw [hw] at h1
  exact h1
theorem m_post_New_h_some (n1 : Int) (r : ((Option Net) × Int)) (h : m_post_New_h n1 = some r) (t : Net) (hw : r.1 = some t) : ObjFn Try.prog G 15 [.d (.int .i64 n1)] [] (.tuple [.ptr 1000 0 0, .d (.int .i64 r.2)]) (dynBH (blks Pst.bs t.posts) [(1000, ⟨67, 4, [.agg [.slc 1001 0 t.posts.length, .slc 1002 0 t.messages.length, .slc 1003 0 t.calls.length, .d (.int .i64 t.clock)]]⟩), (1001, ⟨84, 7, nelB Pst.bs t.posts⟩), (1002, ⟨88, 8, dl (lenc Msg.pd t.messages)⟩), (1003, ⟨51, 5, dl (lenc Cal.pd t.calls)⟩)]) := by
  have h1 := m_post_New_h_ok n1 r h
  rw [hw] at h1
  exact h1
end Go.Pv.Try

namespace Go.Pv.Try
open Go.Proofs Go.Pv
theorem m_post_Net_ok_h_ok (o1 : Net) (r : (Bool × Net)) (h : m_post_Net_ok_h o1 = some r) : ObjFn Try.prog G 49 [.ptr 0 0 0] (dynBH (blks Pst.bs o1.posts) ([(0, ⟨67, 4, [.agg [.slc 1001 0 o1.posts.length, .slc 1002 0 o1.messages.length, .slc 1003 0 o1.calls.length, .d (.int .i64 o1.clock)]]⟩), (1001, ⟨84, 7, nelB Pst.bs o1.posts⟩), (1002, ⟨88, 8, dl (lenc Msg.pd o1.messages)⟩), (1003, ⟨51, 5, dl (lenc Cal.pd o1.calls)⟩)])) (.d (.bool r.1)) (dynBH (blks Pst.bs r.2.posts) ([(0, ⟨67, 4, [.agg [.slc 1001 0 r.2.posts.length, .slc 1002 0 r.2.messages.length, .slc 1003 0 r.2.calls.length, .d (.int .i64 r.2.clock)]]⟩), (1001, ⟨84, 7, nelB Pst.bs r.2.posts⟩), (1002, ⟨88, 8, dl (lenc Msg.pd r.2.messages)⟩), (1003, ⟨51, 5, dl (lenc Cal.pd r.2.calls)⟩)])) := by
 unfold m_post_Net_ok_h at h
 refine ObjFn.pf Try.func49 Try.ntmps49 ?_
 refine sg fun K k => ?_
 refine oo ?_
 refine AOps.nil (k _ ?_)
 refine sg fun K k => ?_
 obtain ⟨hg_1, h⟩ := guardO_some h
 iterate 10 refine oo ?_
 refine AOps.nil (k _ ?_)
 refine AWp.ret ?_
 cases h; exact rtO
end Go.Pv.Try

namespace Go.Pv.Try
open Go.Proofs Go.Pv
set_option maxHeartbeats 4000000 in
theorem m_post_Net_at_h_ok (o1 : Net) (no1 : Int) (r : (Int × Net)) (h : m_post_Net_at_h o1 no1 = some r) : ObjFn Try.prog G 47 [.ptr 0 0 0, .d (.int .i64 no1)] (dynBH (blks Pst.bs o1.posts) ([(0, ⟨67, 4, [.agg [.slc 1001 0 o1.posts.length, .slc 1002 0 o1.messages.length, .slc 1003 0 o1.calls.length, .d (.int .i64 o1.clock)]]⟩), (1001, ⟨84, 7, nelB Pst.bs o1.posts⟩), (1002, ⟨88, 8, dl (lenc Msg.pd o1.messages)⟩), (1003, ⟨51, 5, dl (lenc Cal.pd o1.calls)⟩)])) (.d (.int .i64 r.1)) (dynBH (blks Pst.bs r.2.posts) ([(0, ⟨67, 4, [.agg [.slc 1001 0 r.2.posts.length, .slc 1002 0 r.2.messages.length, .slc 1003 0 r.2.calls.length, .d (.int .i64 r.2.clock)]]⟩), (1001, ⟨84, 7, nelB Pst.bs r.2.posts⟩), (1002, ⟨88, 8, dl (lenc Msg.pd r.2.messages)⟩), (1003, ⟨51, 5, dl (lenc Cal.pd r.2.calls)⟩)])) := by
 unfold m_post_Net_at_h at h
 refine ObjFn.pf Try.func47 Try.ntmps47 ?_
 refine sg fun K k => ?_
 refine oo ?_
 refine AOps.nil (k _ ?_)
 refine AWp.seq fun _ K_1 => ?_
 refine AWp.block ?_
 refine sg fun K k => ?_
 refine oo ?_
 obtain ⟨r1, hx_2, h⟩ := bind_some h
 refine clB (S := Pst.bs) [(0, 0), (1001, 1001), (1002, 1002), (1003, 1003)] [1001, 1002, 1003] [] (m_post_Net_ok_h_ok o1 _ hx_2) ?_
 iterate 2 refine oo ?_
 refine AOps.nil (k _ ?_)
 refine cd h (fun h => ?_) (fun h => ?_)
 ·refine sg fun K k => ?_
  refine oo ?_
  refine AOps.nil (k _ ?_)
  refine AWp.ret ?_
  cases h; exact rtO
 ·refine sg fun K k => ?_
  iterate 3 refine oo ?_
  refine ctH 8 [] [0, 1001, 1002, 1003] (fun  t => (20, .d (.bool ((decide (no1 < 0)) || (decide ((r1.2.posts.length : Int) ≤ no1))))) :: t) (fun  t => dynBH (blks Pst.bs r1.2.posts) (t)) ?_ ?_
  ·rcases bt (decide (no1 < 0)) with hg_5 | hg_5
   ·rw [hg_5]
    iterate 8 refine oo ?_
    refine AOps.nil ?_
    exact sbB
   ·rw [hg_5]
    iterate 8 refine oo ?_
    refine AOps.nil ?_
    exact sbB
  refine oo ?_
  refine AOps.nil (k _ ?_)
  refine cd h (fun h => ?_) (fun h => ?_)
  ·refine sg fun K k => ?_
   refine oo ?_
   refine AOps.nil (k _ ?_)
   refine AWp.ret ?_
   cases h; exact rtO
  ·refine AWp.skip ?_
   refine K_1 _ ?_
   refine sg fun K k => ?_
   refine oo ?_
   refine AOps.nil (k _ ?_)
   refine AWp.ret ?_
   cases h; exact rtO
end Go.Pv.Try

namespace Go.Pv.Try
open Go.Proofs Go.Pv
theorem m_post_Net_send_h_ok (o1 : Net) (m1 : Msg) (r : Net) (h : m_post_Net_send_h o1 m1 = some r) : ObjFn Try.prog G 85 [.ptr 0 0 0, .d (.agg [(.int .i64 m1.Kind), (.int .i64 m1.From), (.int .i64 m1.To), (.int .i64 m1.Turn), (.int .i64 m1.Stamp.No), (.int .i64 m1.Stamp.Post), (.int .i64 m1.Stamp.Turn), (.int .i64 m1.Value)])] (dynBH (blks Pst.bs o1.posts) ([(0, ⟨67, 4, [.agg [.slc 1001 0 o1.posts.length, .slc 1002 0 o1.messages.length, .slc 1003 0 o1.calls.length, .d (.int .i64 o1.clock)]]⟩), (1001, ⟨84, 7, nelB Pst.bs o1.posts⟩), (1002, ⟨88, 8, dl (lenc Msg.pd o1.messages)⟩), (1003, ⟨51, 5, dl (lenc Cal.pd o1.calls)⟩)])) (.tuple []) (dynBH (blks Pst.bs r.posts) ([(0, ⟨67, 4, [.agg [.slc 1001 0 r.posts.length, .slc 1002 0 r.messages.length, .slc 1003 0 r.calls.length, .d (.int .i64 r.clock)]]⟩), (1001, ⟨84, 7, nelB Pst.bs r.posts⟩), (1002, ⟨88, 8, dl (lenc Msg.pd r.messages)⟩), (1003, ⟨51, 5, dl (lenc Cal.pd r.calls)⟩)])) := by
 unfold m_post_Net_send_h at h
 refine ObjFn.pf Try.func85 Try.ntmps85 ?_
 refine sg fun K k => ?_
 refine oo ?_
 refine AOps.nil (k _ ?_)
 refine sg fun K k => ?_
 iterate 6 refine oo ?_
 refine AOps.nil (k _ ?_)
 refine cd h (fun h => ?_) (fun h => ?_)
 ·refine AWp.sub (τ := ⟨[(0, .ptr 0 0 0), (1, .d (.agg [(.int .i64 m1.Kind), (.int .i64 m1.From), (.int .i64 m1.To), (.int .i64 m1.Turn), (.int .i64 m1.Stamp.No), (.int .i64 m1.Stamp.Post), (.int .i64 m1.Stamp.Turn), (.int .i64 m1.Value)])), (3, .ptr 1004 0 0), (4, .ptr 0 0 0), (5, .ptr 0 0 0), (6, .ptr 0 0 1), (8, .d (.int .i64 (o1.messages.length : Int))), (9, .d (.bool (decide ((o1.messages.length : Int) < 500))))], (dynBH (blks Pst.bs o1.posts) ([(0, ⟨67, 4, [.agg [.slc 1001 0 o1.posts.length, .slc 1002 0 o1.messages.length, .slc 1003 0 o1.calls.length, .d (.int .i64 o1.clock)]]⟩), (1001, ⟨84, 7, nelB Pst.bs o1.posts⟩), (1002, ⟨88, 8, dl (lenc Msg.pd o1.messages)⟩), (1003, ⟨51, 5, dl (lenc Cal.pd o1.calls)⟩), (1004, ⟨88, 8, [.d (.agg [(.int .i64 m1.Kind), (.int .i64 m1.From), (.int .i64 m1.To), (.int .i64 m1.Turn), (.int .i64 m1.Stamp.No), (.int .i64 m1.Stamp.Post), (.int .i64 m1.Stamp.Turn), (.int .i64 m1.Value)])]⟩)])), [], none⟩) sbB ?_
  refine drX mo [(1002, [14, 17, 1000000])] ?_
  iterate 6 (refine dd ?_ (by intro K k; simp (disch := omega) only [go_sem, true_or, or_true, and_self, true_and, and_true, ↓reduceIte]; exact k))
  refine ddl ?_ (by intro K k; simp (disch := omega) only [go_sem, true_or, or_true, and_self, true_and, and_true, ↓reduceIte]; exact k)
  obtain ⟨hg_2, h⟩ := guardO_some h
  refine dapH [14, 17, 1000000] [(0, ⟨67, 4, [.agg [.slc 1001 0 o1.posts.length, .slc 1002 0 o1.messages.length, .slc 1003 0 o1.calls.length, .d (.int .i64 o1.clock)]]⟩)] (dl (lenc Msg.pd [m1])) se34 ?_
  iterate 3 (refine dd ?_ (by intro K k; simp (disch := omega) only [go_sem, true_or, or_true, and_self, true_and, and_true, ↓reduceIte]; exact k))
  refine DOps.nil (by kernel_rfl) ?_
  cases h; exact rtO
 ·refine AWp.skip ?_
  cases h; exact rtO
end Go.Pv.Try

namespace Go.Pv.Try
open Go.Proofs Go.Pv
theorem m_post_Net_all_h_ok (o1 : Net) (m1 : Msg) (r : Net) (h : m_post_Net_all_h o1 m1 = some r) : ObjFn Try.prog G 84 [.ptr 0 0 0, .d (.agg [(.int .i64 m1.Kind), (.int .i64 m1.From), (.int .i64 m1.To), (.int .i64 m1.Turn), (.int .i64 m1.Stamp.No), (.int .i64 m1.Stamp.Post), (.int .i64 m1.Stamp.Turn), (.int .i64 m1.Value)])] (dynBH (blks Pst.bs o1.posts) ([(0, ⟨67, 4, [.agg [.slc 1001 0 o1.posts.length, .slc 1002 0 o1.messages.length, .slc 1003 0 o1.calls.length, .d (.int .i64 o1.clock)]]⟩), (1001, ⟨84, 7, nelB Pst.bs o1.posts⟩), (1002, ⟨88, 8, dl (lenc Msg.pd o1.messages)⟩), (1003, ⟨51, 5, dl (lenc Cal.pd o1.calls)⟩)])) (.tuple []) (dynBH (blks Pst.bs r.posts) ([(0, ⟨67, 4, [.agg [.slc 1001 0 r.posts.length, .slc 1002 0 r.messages.length, .slc 1003 0 r.calls.length, .d (.int .i64 r.clock)]]⟩), (1001, ⟨84, 7, nelB Pst.bs r.posts⟩), (1002, ⟨88, 8, dl (lenc Msg.pd r.messages)⟩), (1003, ⟨51, 5, dl (lenc Cal.pd r.calls)⟩)])) := by
 unfold m_post_Net_all_h at h
 refine ObjFn.pf Try.func84 Try.ntmps84 ?_
 refine sg fun K k => ?_
 refine oo ?_
 refine AOps.nil (k _ ?_)
 refine sg fun K k => ?_
 iterate 6 refine oo ?_
 refine AOps.nil (k _ ?_)
 refine AWp.block ?_
 obtain ⟨x_5, hl_2, h2_3⟩ := bind_some h
 refine lp (S := (Int × Int × (List Pst) × (List Msg) × (List Cal) × Msg)) [9] [] (fun i t => (0, .ptr 0 0 0) :: (3, .ptr 1004 0 0) :: (10, .d (.int .i64 i.1)) :: t) (fun i t => dynBH (blks Pst.bs i.2.2.1) ((0, ⟨67, 4, [.agg [.slc 1001 0 i.2.2.1.length, .slc 1002 0 i.2.2.2.1.length, .slc 1003 0 i.2.2.2.2.1.length, .d (.int .i64 i.2.1)]]⟩) :: (1001, ⟨84, 7, nelB Pst.bs i.2.2.1⟩) :: (1002, ⟨88, 8, dl (lenc Msg.pd i.2.2.2.1)⟩) :: (1003, ⟨51, 5, dl (lenc Cal.pd i.2.2.2.2.1)⟩) :: (1004, ⟨88, 8, [.d (.agg [(.int .i64 i.2.2.2.2.2.Kind), (.int .i64 i.2.2.2.2.2.From), (.int .i64 i.2.2.2.2.2.To), (.int .i64 i.2.2.2.2.2.Turn), (.int .i64 i.2.2.2.2.2.Stamp.No), (.int .i64 i.2.2.2.2.2.Stamp.Post), (.int .i64 i.2.2.2.2.2.Stamp.Turn), (.int .i64 i.2.2.2.2.2.Value)])]⟩) :: t)) hl_2 ?_ ?_; exact sbB; clear hl_2
 rintro ⟨v1, c1, L1, L2, L3, c2⟩ _ hb_4; unfold m_post_Net_all_h_l1 at hb_4; try dsimp only at hb_4
 try dsimp only
 refine sg fun K k => ?_
 refine oo ?_
 refine AOps.nil (k _ ?_)
 refine AWp.seq fun _ K_7 => ?_
 refine cd hb_4 (fun hb_4 => ?_) (fun hb_4 => ?_)
 ·refine AWp.skip ?_
  refine K_7 _ ?_
  refine AWp.seq fun _ K_9 => ?_
  refine AWp.block ?_
  refine sg fun K k => ?_
  iterate 2 refine oo ?_
  refine AOps.nil (k _ ?_)
  refine sg fun K k => ?_
  iterate 3 refine oo ?_
  refine AOps.nil (k _ ?_)
  refine AWp.reg ?_
  iterate 2 refine oo ?_
  refine AOps.sub (τ := ⟨[(0, .ptr 0 0 0), (3, .ptr 1004 0 0), (9, .d (.int .i64 (o1.posts.length : Int))), (10, .d (.int .i64 v1)), (15, .ptr 0 0 0), (16, .d (.agg [(.int .i64 c2.Kind), (.int .i64 c2.From), (.int .i64 v1), (.int .i64 c2.Turn), (.int .i64 c2.Stamp.No), (.int .i64 c2.Stamp.Post), (.int .i64 c2.Stamp.Turn), (.int .i64 c2.Value)]))], (dynBH (blks Pst.bs L1) ([(0, ⟨67, 4, [.agg [.slc 1001 0 L1.length, .slc 1002 0 L2.length, .slc 1003 0 L3.length, .d (.int .i64 c1)]]⟩), (1001, ⟨84, 7, nelB Pst.bs L1⟩), (1002, ⟨88, 8, dl (lenc Msg.pd L2)⟩), (1003, ⟨51, 5, dl (lenc Cal.pd L3)⟩), (1004, ⟨88, 8, [.d (.agg [(.int .i64 c2.Kind), (.int .i64 c2.From), (.int .i64 v1), (.int .i64 c2.Turn), (.int .i64 c2.Stamp.No), (.int .i64 c2.Stamp.Post), (.int .i64 c2.Stamp.Turn), (.int .i64 c2.Value)])]⟩)])), [], none⟩) sbB ?_
  obtain ⟨r1, hx_10, hb_4⟩ := bind_some hb_4
  refine clB (S := Pst.bs) [(0, 0), (1001, 1001), (1002, 1002), (1003, 1003)] [1001, 1002, 1003] [] (m_post_Net_send_h_ok (⟨L1, L2, L3, c1⟩ : Net) (⟨c2.Kind, c2.From, v1, c2.Turn, c2.Stamp, c2.Value⟩ : Msg) _ hx_10) ?_
  refine AOps.nil ?_
  refine K_9 _ ?_
  refine AWp.reg ?_
  iterate 2 refine oo ?_
  refine AOps.nil ?_
  exact ln hb_4 sbB
 ·refine AWp.exit ?_
  refine lx hb_4 fun hx => ?_; cases hx; try dsimp only at h2_3
  cases h2_3; exact rtO
end Go.Pv.Try

namespace Go.Pv.Try
open Go.Proofs Go.Pv
set_option maxHeartbeats 4000000 in
theorem m_post_Net_begin_h_ok (o1 : Net) (no1 : Int) (write1 : Bool) (value1 : Int) (r : (Int × Net)) (h : m_post_Net_begin_h o1 no1 write1 value1 = some r) : ObjFn Try.prog G 48 [.ptr 0 0 0, .d (.int .i64 no1), .d (.bool write1), .d (.int .i64 value1)] (dynBH (blks Pst.bs o1.posts) ([(0, ⟨67, 4, [.agg [.slc 1001 0 o1.posts.length, .slc 1002 0 o1.messages.length, .slc 1003 0 o1.calls.length, .d (.int .i64 o1.clock)]]⟩), (1001, ⟨84, 7, nelB Pst.bs o1.posts⟩), (1002, ⟨88, 8, dl (lenc Msg.pd o1.messages)⟩), (1003, ⟨51, 5, dl (lenc Cal.pd o1.calls)⟩)])) (.d (.int .i64 r.1)) (dynBH (blks Pst.bs r.2.posts) ([(0, ⟨67, 4, [.agg [.slc 1001 0 r.2.posts.length, .slc 1002 0 r.2.messages.length, .slc 1003 0 r.2.calls.length, .d (.int .i64 r.2.clock)]]⟩), (1001, ⟨84, 7, nelB Pst.bs r.2.posts⟩), (1002, ⟨88, 8, dl (lenc Msg.pd r.2.messages)⟩), (1003, ⟨51, 5, dl (lenc Cal.pd r.2.calls)⟩)])) := by
 unfold m_post_Net_begin_h at h
 refine ObjFn.pf Try.func48 Try.ntmps48 ?_
 refine sg fun K k => ?_
 refine oo ?_
 refine AOps.nil (k _ ?_)
 refine sg fun K k => ?_
 obtain ⟨e1, ⟨f_1, f_2, f_3, f_4⟩, h⟩ := idx_bind h
 iterate 7 refine oo ?_
 refine AOps.nil (k _ ?_)
 refine AWp.seq fun _ K_5 => ?_
 refine AWp.block ?_
 obtain ⟨e2, ⟨f_6, f_7, f_8, f_9⟩, h⟩ := idx_bind h
 rcases optB_case h with ⟨hw_10, h⟩ | ⟨w1, hw_10, h⟩
 ·have hF_11 := fun p => nelB_hole (S := Pst.bs) f_8 p
  have hwS_12 : Pst.bs.wk e2 = none := hw_10
  refine AWp.sub (opN (S := Pst.bs) ((no1).toNat) f_8 hwS_12 (hl := by rw [nelB_open f_8 hwS_12, Pst_F])) ?_
  refine sg fun K k => ?_
  iterate 3 refine oo ?_
  refine oo ?_ (by intro K k; simp (disch := omega) only [go_sem, hF_11, List.set_set, ↓reduceIte]; exact k)
  iterate 2 refine oo ?_
  refine ctH 6 [0, 1, 2, 3, 9] [0, 1001, 1002, 1003] (fun  t => (29, .d (.bool (!e2.up))) :: t) (fun  t => dynBH ((blks Pst.bs o1.posts).set ((no1).toNat) []) (t)) ?_ ?_
  ·rcases bt (!e2.up) with hg_14 | hg_14
   ·rw [hg_14]
    iterate 6 refine oo ?_
    refine AOps.nil ?_
    exact sbB
   ·rw [hg_14]
    iterate 3 refine oo ?_
    refine oo ?_ (by intro K k; simp (disch := omega) only [go_sem, hF_11, List.set_set, ↓reduceIte]; exact k)
    iterate 2 refine oo ?_
    refine AOps.nil ?_
    exact sbB
  refine oo ?_
  refine AOps.nil (k _ ?_)
  refine cd h (fun h => ?_) (fun h => ?_)
  ·refine sg fun K k => ?_
   refine oo ?_
   refine AOps.nil (k _ ?_)
   refine AWp.sub (τ := ⟨[(0, .ptr 0 0 0), (1, .d (.int .i64 no1)), (2, .d (.bool write1)), (3, .d (.int .i64 value1)), (8, .d (.int .i64 9)), (9, .ptr 1001 ((no1).toNat) 0), (17, .d (.bool (!e2.up))), (29, .d (.bool (!e2.up)))], (dynBH ((blks Pst.bs o1.posts).set ((no1).toNat) []) ([(0, ⟨67, 4, [.agg [.slc 1001 0 o1.posts.length, .slc 1002 0 o1.messages.length, .slc 1003 0 o1.calls.length, .d (.int .i64 o1.clock)]]⟩), (1001, ⟨84, 7, (nelB Pst.bs o1.posts).set ((no1).toNat) (.agg [.d (.bool e2.up), .d (.int .i64 e2.stamp.No), .d (.int .i64 e2.stamp.Post), .d (.int .i64 e2.stamp.Turn), .d (.int .i64 e2.value), .d (.int .i64 e2.turns), .d .nilptr])⟩), (1002, ⟨88, 8, dl (lenc Msg.pd o1.messages)⟩), (1003, ⟨51, 5, dl (lenc Cal.pd o1.calls)⟩)])), [], none⟩) sbB ?_
   refine AWp.sub (shN (S := Pst.bs) ((no1).toNat) (L := o1.posts) (⟨e2.up, e2.stamp, e2.value, e2.turns, none⟩ : Pst) [(0, ⟨67, 4, [.agg [.slc 1001 0 o1.posts.length, .slc 1002 0 o1.messages.length, .slc 1003 0 o1.calls.length, .d (.int .i64 o1.clock)]]⟩), (1001, ⟨84, 7, nelB Pst.bs (o1.posts.set ((no1).toNat) (⟨e2.up, e2.stamp, e2.value, e2.turns, none⟩ : Pst))⟩), (1002, ⟨88, 8, dl (lenc Msg.pd o1.messages)⟩), (1003, ⟨51, 5, dl (lenc Cal.pd o1.calls)⟩)] rfl (hl := by rw [← nelB_set (S := Pst.bs) (L := o1.posts) (i := ((no1).toNat)) (x := (⟨e2.up, e2.stamp, e2.value, e2.turns, none⟩ : Pst)) _ rfl]; rfl)) ?_
   refine AWp.ret ?_
   cases h; exact rtO
  ·refine sd mo fun K k => ?_
   iterate 7 refine dd ?_
   rcases bt (decide (100 ≤ (o1.calls.length : Int))) with hg_16 | hg_16
   ·rw [hg_16]
    replace h := condT hg_16 h
    iterate 14 refine dd ?_
    refine DOps.nil (by kernel_rfl) (k _ ?_)
    refine cdt ?_
    refine sg fun K k => ?_
    refine oo ?_
    refine AOps.nil (k _ ?_)
    refine AWp.sub (τ := ⟨[(0, .ptr 0 0 0), (1, .d (.int .i64 no1)), (2, .d (.bool write1)), (3, .d (.int .i64 value1)), (8, .d (.int .i64 8)), (9, .ptr 1001 ((no1).toNat) 0), (17, .d (.bool (!e2.up))), (29, .d (.bool (!e2.up))), (30, .d (.bool true)), (31, .ptr 0 0 0), (32, .ptr 0 0 0), (33, .ptr 0 0 2), (34, .slc 1003 0 o1.calls.length), (35, .d (.int .i64 (o1.calls.length : Int))), (36, .d (.bool true)), (37, .d (.bool true)), (38, .tuple []), (39, .tuple []), (40, .tuple []), (41, .tuple []), (42, .tuple []), (43, .tuple []), (44, .tuple []), (45, .tuple []), (46, .tuple []), (47, .tuple []), (48, .tuple []), (49, .tuple []), (50, .d (.bool true))], (dynBH ((blks Pst.bs o1.posts).set ((no1).toNat) []) ([(0, ⟨67, 4, [.agg [.slc 1001 0 o1.posts.length, .slc 1002 0 o1.messages.length, .slc 1003 0 o1.calls.length, .d (.int .i64 o1.clock)]]⟩), (1001, ⟨84, 7, (nelB Pst.bs o1.posts).set ((no1).toNat) (.agg [.d (.bool e2.up), .d (.int .i64 e2.stamp.No), .d (.int .i64 e2.stamp.Post), .d (.int .i64 e2.stamp.Turn), .d (.int .i64 e2.value), .d (.int .i64 e2.turns), .d .nilptr])⟩), (1002, ⟨88, 8, dl (lenc Msg.pd o1.messages)⟩), (1003, ⟨51, 5, dl (lenc Cal.pd o1.calls)⟩)])), [], none⟩) sbB ?_
    refine AWp.sub (shN (S := Pst.bs) ((no1).toNat) (L := o1.posts) (⟨e2.up, e2.stamp, e2.value, e2.turns, none⟩ : Pst) [(0, ⟨67, 4, [.agg [.slc 1001 0 o1.posts.length, .slc 1002 0 o1.messages.length, .slc 1003 0 o1.calls.length, .d (.int .i64 o1.clock)]]⟩), (1001, ⟨84, 7, nelB Pst.bs (o1.posts.set ((no1).toNat) (⟨e2.up, e2.stamp, e2.value, e2.turns, none⟩ : Pst))⟩), (1002, ⟨88, 8, dl (lenc Msg.pd o1.messages)⟩), (1003, ⟨51, 5, dl (lenc Cal.pd o1.calls)⟩)] rfl (hl := by rw [← nelB_set (S := Pst.bs) (L := o1.posts) (i := ((no1).toNat)) (x := (⟨e2.up, e2.stamp, e2.value, e2.turns, none⟩ : Pst)) _ rfl]; rfl)) ?_
    refine AWp.ret ?_
    cases h; exact rtO
   ·rw [hg_16]
    replace h := condF hg_16 h
    iterate 14 refine dd ?_
    refine DOps.nil (by kernel_rfl) (k _ ?_)
    refine cd h (fun h => ?_) (fun h => ?_)
    ·refine sg fun K k => ?_
     refine oo ?_
     refine AOps.nil (k _ ?_)
     refine AWp.sub (τ := ⟨[(0, .ptr 0 0 0), (1, .d (.int .i64 no1)), (2, .d (.bool write1)), (3, .d (.int .i64 value1)), (8, .d (.int .i64 8)), (9, .ptr 1001 ((no1).toNat) 0), (17, .d (.bool (!e2.up))), (29, .d (.bool (!e2.up))), (30, .d (.bool (decide (500 < (IntKind.i64.wrap ((o1.messages.length : Int) + (o1.posts.length : Int))))))), (31, .ptr 0 0 0), (32, .ptr 0 0 0), (33, .ptr 0 0 2), (34, .slc 1003 0 o1.calls.length), (35, .d (.int .i64 (o1.calls.length : Int))), (36, .d (.bool false)), (37, .d (.bool false)), (38, .ptr 0 0 0), (39, .ptr 0 0 0), (40, .ptr 0 0 1), (41, .slc 1002 0 o1.messages.length), (42, .d (.int .i64 (o1.messages.length : Int))), (43, .ptr 0 0 0), (44, .ptr 0 0 0), (45, .ptr 0 0 0), (46, .slc 1001 0 o1.posts.length), (47, .d (.int .i64 (o1.posts.length : Int))), (48, .d (.int .i64 (IntKind.i64.wrap ((o1.messages.length : Int) + (o1.posts.length : Int))))), (49, .d (.bool (decide (500 < (IntKind.i64.wrap ((o1.messages.length : Int) + (o1.posts.length : Int))))))), (50, .d (.bool (decide (500 < (IntKind.i64.wrap ((o1.messages.length : Int) + (o1.posts.length : Int)))))))], (dynBH ((blks Pst.bs o1.posts).set ((no1).toNat) []) ([(0, ⟨67, 4, [.agg [.slc 1001 0 o1.posts.length, .slc 1002 0 o1.messages.length, .slc 1003 0 o1.calls.length, .d (.int .i64 o1.clock)]]⟩), (1001, ⟨84, 7, (nelB Pst.bs o1.posts).set ((no1).toNat) (.agg [.d (.bool e2.up), .d (.int .i64 e2.stamp.No), .d (.int .i64 e2.stamp.Post), .d (.int .i64 e2.stamp.Turn), .d (.int .i64 e2.value), .d (.int .i64 e2.turns), .d .nilptr])⟩), (1002, ⟨88, 8, dl (lenc Msg.pd o1.messages)⟩), (1003, ⟨51, 5, dl (lenc Cal.pd o1.calls)⟩)])), [], none⟩) sbB ?_
     refine AWp.sub (shN (S := Pst.bs) ((no1).toNat) (L := o1.posts) (⟨e2.up, e2.stamp, e2.value, e2.turns, none⟩ : Pst) [(0, ⟨67, 4, [.agg [.slc 1001 0 o1.posts.length, .slc 1002 0 o1.messages.length, .slc 1003 0 o1.calls.length, .d (.int .i64 o1.clock)]]⟩), (1001, ⟨84, 7, nelB Pst.bs (o1.posts.set ((no1).toNat) (⟨e2.up, e2.stamp, e2.value, e2.turns, none⟩ : Pst))⟩), (1002, ⟨88, 8, dl (lenc Msg.pd o1.messages)⟩), (1003, ⟨51, 5, dl (lenc Cal.pd o1.calls)⟩)] rfl (hl := by rw [← nelB_set (S := Pst.bs) (L := o1.posts) (i := ((no1).toNat)) (x := (⟨e2.up, e2.stamp, e2.value, e2.turns, none⟩ : Pst)) _ rfl]; rfl)) ?_
     refine AWp.ret ?_
     cases h; exact rtO
    ·refine AWp.skip ?_
     refine K_5 _ ?_
     refine sg fun K k => ?_
     iterate 8 refine oo ?_
     refine AOps.nil (k _ ?_)
     refine sg fun K k => ?_
     iterate 3 refine oo ?_
     refine oo ?_ (by intro K k; simp (disch := omega) only [go_sem, hF_11, List.set_set, ↓reduceIte]; exact k)
     iterate 3 refine oo ?_
     refine oo ?_ (by intro K k; simp (disch := omega) only [go_sem, hF_11, List.set_set, ↓reduceIte]; exact k)
     refine AOps.nil (k _ ?_)
     refine sd mo fun K k => ?_
     iterate 4 refine dd ?_
     refine dd ?_ (by intro K k; simp (disch := omega) only [go_sem, hF_11, List.set_set, ↓reduceIte]; exact k)
     obtain ⟨hg_18, h⟩ := guardO_some h
     iterate 17 refine dd ?_
     refine dd ?_ (by intro K k; simp (disch := omega) only [go_sem, hF_11, List.set_set, ↓reduceIte]; exact k)
     refine DOps.nil (by kernel_rfl) (k _ ?_)
     refine sg fun K k => ?_
     iterate 9 refine oo ?_
     refine AOps.nil (k _ ?_)
     refine jn (α := Cal) [0, 1, 9] [0, 1001, 1002, 1003, 1004, 1005] (fun i t => (10, .ptr 1006 0 0) :: t) (fun i t => dynBH ((blks Pst.bs o1.posts).set ((no1).toNat) []) ((1006, ⟨51, 5, [.d (.agg [(.int .i64 i.Post), (.bool i.Write), (.int .i64 i.Value), (.int .i64 i.Start), (.int .i64 i.End)])]⟩) :: t)) h ?_ ?_
     ·intro _ hj_20
      refine sg fun K k => ?_
      refine oo ?_
      refine AOps.nil (k _ ?_)
      refine cd hj_20 (fun hj_20 => ?_) (fun hj_20 => ?_)
      ·refine AWp.reg ?_
       iterate 3 refine oo ?_
       refine AOps.nil ?_
       cases hj_20; exact sbB
      ·refine AWp.skip ?_
       cases hj_20; exact sbB
     ·rintro c1 h; dsimp only at h ⊢
      refine sdX mo [(1003, [101, 104, 1000000])] fun K k => ?_
      iterate 6 (refine dd ?_ (by intro K k; simp (disch := omega) only [go_sem, true_or, or_true, and_self, true_and, and_true, ↓reduceIte]; exact k))
      refine ddl ?_ (by intro K k; simp (disch := omega) only [go_sem, true_or, or_true, and_self, true_and, and_true, ↓reduceIte]; exact k)
      obtain ⟨hg_22, h⟩ := guardO_some h
      refine dapH [101, 104, 1000000] [(0, ⟨67, 4, [.agg [.slc 1001 0 o1.posts.length, .slc 1002 0 o1.messages.length, .slc 1003 0 o1.calls.length, .d (.int .i64 (IntKind.i64.wrap (o1.clock + 1)))]]⟩)] (dl (lenc Cal.pd [c1])) se31 ?_
      iterate 3 (refine dd ?_ (by intro K k; simp (disch := omega) only [go_sem, true_or, or_true, and_self, true_and, and_true, ↓reduceIte]; exact k))
      refine DOps.nil (by kernel_rfl) (k _ ?_)
      refine sg fun K k => ?_
      iterate 5 refine oo ?_
      refine oo ?_ (by intro K k; simp (disch := omega) only [go_sem, hF_11, List.set_set, ↓reduceIte]; exact k)
      refine oo ?_
      refine AOps.sub (τ := ⟨[(107, .ptr 0 0 0), (113, .d (.agg [(.int .i64 1), (.int .i64 no1), (.int .i64 0), (.int .i64 (IntKind.i64.wrap (e2.turns + 1))), (.int .i64 0), (.int .i64 0), (.int .i64 0), (.int .i64 0)]))], (dynBH ((blks Pst.bs o1.posts).set ((no1).toNat) []) ([(0, ⟨67, 4, [.agg [.slc 1001 0 o1.posts.length, .slc 1002 0 o1.messages.length, .slc 1003 0 (o1.calls.length + [c1].length), .d (.int .i64 (IntKind.i64.wrap (o1.clock + 1)))]]⟩), (1001, ⟨84, 7, (nelB Pst.bs o1.posts).set ((no1).toNat) (.agg [.d (.bool e2.up), .d (.int .i64 e2.stamp.No), .d (.int .i64 e2.stamp.Post), .d (.int .i64 e2.stamp.Turn), .d (.int .i64 e2.value), .d (.int .i64 (IntKind.i64.wrap (e2.turns + 1))), .ptr 1005 0 0])⟩), (1002, ⟨88, 8, dl (lenc Msg.pd o1.messages)⟩), (1003, ⟨51, 5, dl (lenc Cal.pd (o1.calls ++ [c1]))⟩), (1004, ⟨4, 1, dl (lenc PD.bool (List.replicate ((o1.posts.length : Int)).toNat (false : Bool)))⟩), (1005, ⟨103, 9, [.agg [.d (.int .i64 (IntKind.i64.wrap (e2.turns + 1))), .d (.int .i64 (o1.calls.length : Int)), .d (.bool write1), .d (.bool false), .d (.int .i64 0), .d (.int .i64 0), .d (.int .i64 0), .d (.int .i64 value1), .slc 1004 0 (((o1.posts.length : Int)).toNat)]]⟩)])), [], none⟩) sbB ?_
      refine AOps.sub (shS (S := Pst.bs) ((no1).toNat) 1005 1004 (⟨e2.up, e2.stamp, e2.value, (IntKind.i64.wrap (e2.turns + 1)), (some (⟨(IntKind.i64.wrap (e2.turns + 1)), (o1.calls.length : Int), write1, false, (⟨0, 0, 0⟩ : Stamp), value1, (List.replicate ((o1.posts.length : Int)).toNat (false : Bool))⟩ : Work))⟩ : Pst) [(0, ⟨67, 4, [.agg [.slc 1001 0 o1.posts.length, .slc 1002 0 o1.messages.length, .slc 1003 0 (o1.calls.length + [c1].length), .d (.int .i64 (IntKind.i64.wrap (o1.clock + 1)))]]⟩), (1001, ⟨84, 7, nelB Pst.bs (o1.posts.set ((no1).toNat) (⟨e2.up, e2.stamp, e2.value, (IntKind.i64.wrap (e2.turns + 1)), (some (⟨(IntKind.i64.wrap (e2.turns + 1)), (o1.calls.length : Int), write1, false, (⟨0, 0, 0⟩ : Stamp), value1, (List.replicate ((o1.posts.length : Int)).toNat (false : Bool))⟩ : Work))⟩ : Pst))⟩), (1002, ⟨88, 8, dl (lenc Msg.pd o1.messages)⟩), (1003, ⟨51, 5, dl (lenc Cal.pd (o1.calls ++ [c1]))⟩)] f_8 rfl (hl := by (repeat' (first | exact trivial | exact rfl | exact dl_ren _ _ | exact nelB_unfocus (S := Pst.bs) (q0 := 1005) (q1 := 1004) (x := (⟨e2.up, e2.stamp, e2.value, (IntKind.i64.wrap (e2.turns + 1)), (some (⟨(IntKind.i64.wrap (e2.turns + 1)), (o1.calls.length : Int), write1, false, (⟨0, 0, 0⟩ : Stamp), value1, (List.replicate ((o1.posts.length : Int)).toNat (false : Bool))⟩ : Work))⟩ : Pst)) f_8 rfl (by decide) (by decide) | (simp only [renL, PV.ren, List.length_append, List.length_set, List.length_replicate, List.length_cons, List.length_nil, Nat.zero_add] <;> exact rfl) | apply And.intro)))) ?_
      obtain ⟨r1, hx_23, h⟩ := bind_some h
      refine clB (S := Pst.bs) [(0, 0), (1001, 1001), (1002, 1002), (1003, 1003)] [1001, 1002, 1003] [] (m_post_Net_all_h_ok (⟨(o1.posts.set ((no1).toNat) (⟨e2.up, e2.stamp, e2.value, (IntKind.i64.wrap (e2.turns + 1)), (some (⟨(IntKind.i64.wrap (e2.turns + 1)), (o1.calls.length : Int), write1, false, (⟨0, 0, 0⟩ : Stamp), value1, (List.replicate ((o1.posts.length : Int)).toNat (false : Bool))⟩ : Work))⟩ : Pst)), o1.messages, (o1.calls ++ [c1]), (IntKind.i64.wrap (o1.clock + 1))⟩ : Net) (⟨1, no1, 0, (IntKind.i64.wrap (e2.turns + 1)), (⟨0, 0, 0⟩ : Stamp), 0⟩ : Msg) _ hx_23) ?_
      refine AOps.nil (k _ ?_)
      refine sg fun K k => ?_
      refine oo ?_
      refine AOps.nil (k _ ?_)
      refine AWp.ret ?_
      cases h; exact rtO
 ·have hF_24 := fun p => nelB_hole (S := Pst.bs) f_8 p
  have hwS_25 : Pst.bs.wk e2 = some w1 := hw_10
  refine AWp.sub (opS (S := Pst.bs) ((no1).toNat) 1004 1005 (⟨103, 9, [.agg [.d (.int .i64 w1.turn), .d (.int .i64 w1.call), .d (.bool w1.write), .d (.bool w1.puts), .d (.int .i64 w1.stamp.No), .d (.int .i64 w1.stamp.Post), .d (.int .i64 w1.stamp.Turn), .d (.int .i64 w1.value), .slc 1005 0 w1.answered.length]]⟩ : Row) (⟨4, 1, dl (lenc PD.bool w1.answered)⟩ : Row) f_8 hwS_25 (hl := by (simp only [renHeap, Row.ren, renL, PV.ren, dl_ren, focB_low, nelB_focus f_8 hwS_25, Nat.reduceLT, Pst_F]; rfl))) ?_
  refine sg fun K k => ?_
  iterate 3 refine oo ?_
  refine oo ?_ (by intro K k; simp (disch := omega) only [go_sem, hF_24, List.set_set, ↓reduceIte]; exact k)
  iterate 2 refine oo ?_
  refine ctH 6 [0, 1, 2, 3, 9] [0, 1001, 1002, 1003, 1004, 1005] (fun  t => (29, .d (.bool true)) :: t) (fun  t => dynBH ((blks Pst.bs o1.posts).set ((no1).toNat) []) (t)) ?_ ?_
  ·rcases bt (!e2.up) with hg_27 | hg_27
   ·rw [hg_27]
    iterate 6 refine oo ?_
    refine AOps.nil ?_
    exact sbB
   ·rw [hg_27]
    iterate 3 refine oo ?_
    refine oo ?_ (by intro K k; simp (disch := omega) only [go_sem, hF_24, List.set_set, ↓reduceIte]; exact k)
    iterate 2 refine oo ?_
    refine AOps.nil ?_
    exact sbB
  refine oo ?_
  refine AOps.nil (k _ ?_)
  refine cdt ?_
  refine sg fun K k => ?_
  refine oo ?_
  refine AOps.nil (k _ ?_)
  refine AWp.sub (shS (S := Pst.bs) ((no1).toNat) 1004 1005 (⟨e2.up, e2.stamp, e2.value, e2.turns, (some w1)⟩ : Pst) [(0, ⟨67, 4, [.agg [.slc 1001 0 o1.posts.length, .slc 1002 0 o1.messages.length, .slc 1003 0 o1.calls.length, .d (.int .i64 o1.clock)]]⟩), (1001, ⟨84, 7, nelB Pst.bs (o1.posts.set ((no1).toNat) (⟨e2.up, e2.stamp, e2.value, e2.turns, (some w1)⟩ : Pst))⟩), (1002, ⟨88, 8, dl (lenc Msg.pd o1.messages)⟩), (1003, ⟨51, 5, dl (lenc Cal.pd o1.calls)⟩)] f_8 rfl (hl := by (repeat' (first | exact trivial | exact rfl | exact dl_ren _ _ | exact nelB_unfocus (S := Pst.bs) (q0 := 1004) (q1 := 1005) (x := (⟨e2.up, e2.stamp, e2.value, e2.turns, (some w1)⟩ : Pst)) f_8 rfl (by decide) (by decide) | (simp only [renL, PV.ren, List.length_append, List.length_set, List.length_replicate, List.length_cons, List.length_nil, Nat.zero_add] <;> exact rfl) | apply And.intro)))) ?_
  refine AWp.ret ?_
  cases h; exact rtO
end Go.Pv.Try

namespace Go.Pv.Try
open Go.Proofs Go.Pv
set_option maxHeartbeats 4000000 in
theorem m_post_Net_Write_h_ok (o1 : Net) (no1 : Int) (value1 : Int) (r : (Int × Net)) (h : m_post_Net_Write_h o1 no1 value1 = some r) : ObjFn Try.prog G 16 [.ptr 0 0 0, .d (.int .i64 no1), .d (.int .i64 value1)] (dynBH (blks Pst.bs o1.posts) ([(0, ⟨67, 4, [.agg [.slc 1001 0 o1.posts.length, .slc 1002 0 o1.messages.length, .slc 1003 0 o1.calls.length, .d (.int .i64 o1.clock)]]⟩), (1001, ⟨84, 7, nelB Pst.bs o1.posts⟩), (1002, ⟨88, 8, dl (lenc Msg.pd o1.messages)⟩), (1003, ⟨51, 5, dl (lenc Cal.pd o1.calls)⟩)])) (.d (.int .i64 r.1)) (dynBH (blks Pst.bs r.2.posts) ([(0, ⟨67, 4, [.agg [.slc 1001 0 r.2.posts.length, .slc 1002 0 r.2.messages.length, .slc 1003 0 r.2.calls.length, .d (.int .i64 r.2.clock)]]⟩), (1001, ⟨84, 7, nelB Pst.bs r.2.posts⟩), (1002, ⟨88, 8, dl (lenc Msg.pd r.2.messages)⟩), (1003, ⟨51, 5, dl (lenc Cal.pd r.2.calls)⟩)])) := by
 unfold m_post_Net_Write_h at h
 refine ObjFn.pf Try.func16 Try.ntmps16 ?_
 refine sg fun K k => ?_
 refine oo ?_
 refine AOps.nil (k _ ?_)
 refine AWp.seq fun _ K_1 => ?_
 refine sg fun K k => ?_
 iterate 2 refine oo ?_
 obtain ⟨r1, hx_2, h⟩ := bind_some h
 refine clB (S := Pst.bs) [(0, 0), (1001, 1001), (1002, 1002), (1003, 1003)] [1001, 1002, 1003] [] (m_post_Net_at_h_ok o1 no1 _ hx_2) ?_
 refine oo ?_
 refine AOps.nil (k _ ?_)
 refine sg fun K k => ?_
 iterate 2 refine oo ?_
 refine AOps.nil (k _ ?_)
 refine cd h (fun h => ?_) (fun h => ?_)
 ·refine sg fun K k => ?_
  iterate 2 refine oo ?_
  refine AOps.nil (k _ ?_)
  refine AWp.ret ?_
  cases h; exact rtO
 ·refine AWp.skip ?_
  refine K_1 _ ?_
  refine AWp.seq fun _ K_4 => ?_
  refine sg fun K k => ?_
  iterate 3 refine oo ?_
  refine ctH 3 [0, 1, 2] [0, 1001, 1002, 1003] (fun  t => (19, .d (.bool ((decide (value1 < 1)) || (decide (1000000 < value1))))) :: t) (fun  t => dynBH (blks Pst.bs r1.2.posts) (t)) ?_ ?_
  ·rcases bt (decide (value1 < 1)) with hg_6 | hg_6
   ·rw [hg_6]
    iterate 3 refine oo ?_
    refine AOps.nil ?_
    exact sbB
   ·rw [hg_6]
    iterate 3 refine oo ?_
    refine AOps.nil ?_
    exact sbB
  refine AOps.nil (k _ ?_)
  refine cd h (fun h => ?_) (fun h => ?_)
  ·refine sg fun K k => ?_
   refine oo ?_
   refine AOps.nil (k _ ?_)
   refine AWp.ret ?_
   cases h; exact rtO
  ·refine AWp.skip ?_
   refine K_4 _ ?_
   refine sg fun K k => ?_
   iterate 3 refine oo ?_
   obtain ⟨r2, hx_8, h⟩ := bind_some h
   refine clB (S := Pst.bs) [(0, 0), (1001, 1001), (1002, 1002), (1003, 1003)] [1001, 1002, 1003] [] (m_post_Net_begin_h_ok r1.2 no1 true value1 _ hx_8) ?_
   refine oo ?_
   refine AOps.nil (k _ ?_)
   refine AWp.ret ?_
   cases h; exact rtO
end Go.Pv.Try

namespace Go.Pv.Try
open Go.Proofs Go.Pv
theorem lend_52 (L : List Msg) (hlen : L.length ≤ 4294967296) : ObjFn Try.prog G 52 [.slc 0 0 L.length] [(0, ⟨88, 8, dl (lenc Msg.pd L)⟩)] (.slc 1000 0 L.length) [(0, ⟨88, 8, dl (lenc Msg.pd L)⟩), (1000, ⟨88, 8, dl (lenc Msg.pd L)⟩)] := by
  refine ObjFn.pf Try.func52 Try.ntmps52 ?_
  refine sg fun K k => ?_
  refine oo ?_
  refine AOps.nil (k _ ?_)
  refine AWp.seq fun _ K_1 => ?_
  refine sg fun K k => ?_
  refine oo ?_
  refine ntR ty34 T34_desc (fun he => ?_) ?_
  · simp only [go_sem, ↓reduceIte]
    refine AOps.nil (k _ ?_)
    refine cdt ?_
    have hL : L = [] := List.eq_nil_of_length_eq_zero he
    subst hL
    refine sg fun K k => ?_
    refine oo ?_
    refine AOps.nil (k _ ?_)
    refine AWp.sub (Sub.void 2 88 8 1000 (by rfl) (by rfl) (by decide) (by decide)) ?_
    simp only [eput, hput, ↓reduceIte, Nat.reduceEqDiff]
    refine AWp.ret ?_
    exact rtO
  · simp only [go_sem, ↓reduceIte]
    refine AOps.nil (k _ ?_)
    refine cdf ?_
    refine AWp.skip ?_
    refine K_1 _ ?_
    refine sg fun K k => ?_
    iterate 2 refine oo ?_
    refine oo ?_ (by intro K k; simp (disch := omega) only [go_sem, List.take_length, ↓reduceIte]; exact k)
    refine oo ?_
    refine AOps.nil (k _ ?_)
    refine AWp.ret ?_
    exact rtO
theorem lend_50 (L : List Cal) (hlen : L.length ≤ 4294967296) : ObjFn Try.prog G 50 [.slc 0 0 L.length] [(0, ⟨51, 5, dl (lenc Cal.pd L)⟩)] (.slc 1000 0 L.length) [(0, ⟨51, 5, dl (lenc Cal.pd L)⟩), (1000, ⟨51, 5, dl (lenc Cal.pd L)⟩)] := by
  refine ObjFn.pf Try.func50 Try.ntmps50 ?_
  refine sg fun K k => ?_
  refine oo ?_
  refine AOps.nil (k _ ?_)
  refine AWp.seq fun _ K_1 => ?_
  refine sg fun K k => ?_
  refine oo ?_
  refine ntR ty31 T31_desc (fun he => ?_) ?_
  · simp only [go_sem, ↓reduceIte]
    refine AOps.nil (k _ ?_)
    refine cdt ?_
    have hL : L = [] := List.eq_nil_of_length_eq_zero he
    subst hL
    refine sg fun K k => ?_
    refine oo ?_
    refine AOps.nil (k _ ?_)
    refine AWp.sub (Sub.void 2 51 5 1000 (by rfl) (by rfl) (by decide) (by decide)) ?_
    simp only [eput, hput, ↓reduceIte, Nat.reduceEqDiff]
    refine AWp.ret ?_
    exact rtO
  · simp only [go_sem, ↓reduceIte]
    refine AOps.nil (k _ ?_)
    refine cdf ?_
    refine AWp.skip ?_
    refine K_1 _ ?_
    refine sg fun K k => ?_
    iterate 2 refine oo ?_
    refine oo ?_ (by intro K k; simp (disch := omega) only [go_sem, List.take_length, ↓reduceIte]; exact k)
    refine oo ?_
    refine AOps.nil (k _ ?_)
    refine AWp.ret ?_
    exact rtO
theorem app_els {α : Type} {f : α → PD} {L : List α} {a b : Nat} : (dl (lenc f L)).take a ++ dl (lenc f (L.drop b)) ++ (dl (lenc f L)).drop (a + (dl (lenc f (L.drop b))).length) = dl (lenc f (L.take a ++ L.drop b ++ L.drop (a + (L.length - b)))) := by
  simp [dl, lenc, List.map_take, List.map_drop]
theorem clr_els {L : List Msg} {a b : Nat} (hab : a ≤ b) (hb : b ≤ L.length) : (dl (lenc Msg.pd (L.take a ++ L.drop b ++ L.drop (a + (L.length - b))))).take (a + (L.length - b)) ++ List.replicate (L.length - (a + (L.length - b))) (PV.d (.agg [(.int .i64 0), (.int .i64 0), (.int .i64 0), (.int .i64 0), (.int .i64 0), (.int .i64 0), (.int .i64 0), (.int .i64 0)])) ++ (dl (lenc Msg.pd (L.take a ++ L.drop b ++ L.drop (a + (L.length - b))))).drop (a + (L.length - b) + (L.length - (a + (L.length - b)))) = dl (lenc Msg.pd (delP L (a : Int) (b : Int))) := by
  have e1 : (L.take a ++ L.drop b ++ L.drop (a + (L.length - b))).take (a + (L.length - b)) = L.take a ++ L.drop b := by
    rw [List.take_append_of_le_length (by simp; omega), List.take_of_length_le (by simp; omega)]
  have e2 : (L.take a ++ L.drop b ++ L.drop (a + (L.length - b))).drop (a + (L.length - b) + (L.length - (a + (L.length - b)))) = [] := List.drop_eq_nil_of_le (by simp; omega)
  have e3 : ((b : Int) - (a : Int)).toNat = L.length - (a + (L.length - b)) := by omega
  unfold delP
  rw [e3, Int.toNat_natCast, Int.toNat_natCast]
  have t : ∀ (M : List Msg) k, (dl (lenc Msg.pd M)).take k = dl (lenc Msg.pd (M.take k)) := fun M k => by simp [dl, lenc, List.map_take]
  have d : ∀ (M : List Msg) k, (dl (lenc Msg.pd M)).drop k = dl (lenc Msg.pd (M.drop k)) := fun M k => by simp [dl, lenc, List.map_drop]
  rw [t, d, e1, e2]
  simp [dl, lenc, Msg.pd, default, instInhabitedMsg]
theorem delete_hand (L : List Msg) (i j : Int) (h : delOk L i j = true) : HandFn Try.prog G 53 [.slc 0 0 L.length, .d (.int .i64 i), .d (.int .i64 j)] 0 88 8 (lenc Msg.pd L) (.slc 0 0 (delT L i j).length) (lenc Msg.pd (delP L i j)) := by
  unfold delOk at h
  rw [decide_eq_true_eq] at h
  obtain ⟨h1, h2, h3, h4⟩ := h
  obtain ⟨a, rfl⟩ : ∃ a : Nat, i = a := ⟨i.toNat, by omega⟩
  obtain ⟨b, rfl⟩ : ∃ b : Nat, j = b := ⟨j.toNat, by omega⟩
  have hab : a ≤ b := by omega
  have hbn : b ≤ L.length := by omega
  have hN : (delT L (a : Int) (b : Int)).length = a + (L.length - b) := by unfold delT; simp only [List.length_append, List.length_take, List.length_drop, Int.toNat_natCast]; omega
  refine HandFn.pf Try.func53 Try.ntmps53 (by simp only [lenc_length]; exact delP_len (by unfold delOk; rw [decide_eq_true_eq]; omega)) ?_
  refine sg fun K k => ?_
  refine oo ?_
  refine AOps.nil (k _ ?_)
  refine sg fun K k => ?_
  iterate 5 refine oo ?_
  refine on (fun K' hK' => OpT.slice3 (by rfl) ty34 T34_desc ty88 (by rfl) (by rfl) (by rfl) (by rfl) (by omega) (by omega) (by omega) (by omega) (by simp only [go_sem, ↓reduceIte]) (hK' _ ?_))
  simp only [go_sem, ↓reduceIte]
  refine AOps.nil (k _ ?_)
  refine AWp.seq fun _ K_1 => ?_
  refine sg fun K k => ?_
  iterate 3 refine oo ?_
  refine AOps.nil (k _ ?_)
  refine AWp.cond (by rfl) (fun hb => ?_) (fun hb => ?_)
  · have e : a = b := by simp at hb; omega
    subst e
    refine sg fun K k => ?_
    iterate 2 refine oo ?_
    refine AOps.nil (k _ ?_)
    refine AWp.ret ?_
    have e1 : (delT L (a : Int) (a : Int)).length = L.length := by unfold delT; simp
    have e2 : delP L (a : Int) (a : Int) = L := by unfold delP; simp
    rw [e1, e2]
    exact rtHand (hp := by simp only [go_sem, ↓reduceIte]) (hpr := rfl) (hh := rfl)
  · have hlt : a < b := by simp at hb; omega
    refine AWp.skip ?_
    refine K_1 _ ?_
    refine sg fun K k => ?_
    iterate 3 refine oo ?_
    refine AOps.nil (k _ ?_)
    refine sd mo fun K k => ?_
    iterate 3 refine dd ?_
    iterate 2 refine dd ?_
    by_cases hjn : b = L.length
    · subst hjn
      refine dn rfl (fun K' hK' => OpX.sliceEnd (by rfl) ty34 T34_desc ty88 (by rfl) (by rfl) (by simp only [go_sem]) 8 (by simp only [go_sem]) (hK' _ _ ?_))
      simp only [go_sem, ↓reduceIte, show ((a : Int) - 0).toNat = a by omega]
      refine dn rfl (fun K' hK' => OpX.solo (σ1 := ⟨_, [(0, ⟨88, 8, dl (lenc Msg.pd (L.take a ++ L.drop L.length ++ L.drop (a + (L.length - L.length))))⟩)], [], none⟩) rfl rfl (OpT.appendIn (r := 0) (n := a) (row := ⟨88, 8, dl (lenc Msg.pd L)⟩) (L := dl (lenc Msg.pd (L.drop L.length))) (by rfl) ty34 T34_desc ty88 (by rw [T88_size]; decide) (by rfl) (by rfl) (by rfl) (by rw [T88_size]) (by show srcV T88.size _ (.d (.imm 8 [])) = _; simp only [srcV, ↓reduceIte, T88_size]; simp [dl, lenc]) (by simp [dl, lenc] <;> omega) (by simp only [go_sem]) (hK := by rw [app_els, show (dl (lenc Msg.pd (L.drop L.length))).length = L.length - L.length by simp [dl, lenc]]; simp only [St.put, eput, hput, ↓reduceIte, Nat.reduceEqDiff]; rfl)) (hK' _ _ ?_))
      refine dd ?_
      refine DOps.nil (by kernel_rfl) (k _ ?_)
      refine sg fun K k => ?_
      iterate 4 refine oo ?_
      refine on (fun K' hK' => OpT.sliceIn (r := 0) (n := a + (L.length - L.length)) (row := ⟨88, 8, dl (lenc Msg.pd (L.take a ++ L.drop L.length ++ L.drop (a + (L.length - L.length))))⟩) (a1 := a + (L.length - L.length)) (b1 := L.length) (by rfl) ty34 T34_desc ty88 (by rfl) (by rfl) (by rw [T88_size]) (by rfl) (by rfl) (by omega) (by simp [dl, lenc] <;> omega) (by simp [dl, lenc] <;> omega) (by simp only [go_sem]) (hK' _ ?_))
      simp only [go_sem, ↓reduceIte]
      obtain ⟨zv, z1, z2, z3, z4⟩ := zeroPV_some T88_zero
      refine on (fun K' hK' => OpT.clear (r := 0) (lo := a + (L.length - L.length)) (n := L.length - (a + (L.length - L.length))) (row := ⟨88, 8, dl (lenc Msg.pd (L.take a ++ L.drop L.length ++ L.drop (a + (L.length - L.length))))⟩) (by rfl) ty34 T34_desc ty88 z1 z2 z3 z4 (by rfl) (by rfl) (by rw [T88_size]) (by rfl) (hK := hK' _ ?_))
      dsimp only
      rw [clr_els hab hbn]
      simp only [hput, ↓reduceIte]
      refine AOps.nil (k _ ?_)
      refine sg fun K k => ?_
      iterate 2 refine oo ?_
      refine AOps.nil (k _ ?_)
      refine AWp.ret ?_
      exact rtHand (p := .slc 0 0 (a + (L.length - L.length))) (hp := by simp only [go_sem, ↓reduceIte]) (hpr := by rw [hN]) (hh := rfl)
    · refine dd ?_
      simp only [show ((a : Int) - 0).toNat = a by omega, Int.toNat_natCast, show ((L.length : Int) - (b : Int)).toNat = L.length - b by omega]
      refine dn rfl (fun K' hK' => OpX.solo (σ1 := ⟨_, [(0, ⟨88, 8, dl (lenc Msg.pd (L.take a ++ L.drop b ++ L.drop (a + (L.length - b))))⟩)], [], none⟩) rfl rfl (OpT.appendIn (r := 0) (n := a) (row := ⟨88, 8, dl (lenc Msg.pd L)⟩) (L := dl (lenc Msg.pd (L.drop b))) (by rfl) ty34 T34_desc ty88 (by rw [T88_size]; decide) (by rfl) (by rfl) (by rfl) (by rw [T88_size]) (by show srcV T88.size _ (.slc 0 b (L.length - b)) = _; simp only [srcV, hget, ↓reduceIte, T88_size]; rw [List.take_of_length_le (by simp [dl, lenc])]; simp [dl, lenc, List.map_drop]) (by simp [dl, lenc] <;> omega) (by simp only [go_sem]) (hK := by rw [app_els, show (dl (lenc Msg.pd (L.drop b))).length = L.length - b by simp [dl, lenc]]; simp only [St.put, eput, hput, ↓reduceIte, Nat.reduceEqDiff]; rfl)) (hK' _ _ ?_))
      refine dd ?_
      refine DOps.nil (by kernel_rfl) (k _ ?_)
      refine sg fun K k => ?_
      iterate 4 refine oo ?_
      refine on (fun K' hK' => OpT.sliceIn (r := 0) (n := a + (L.length - b)) (row := ⟨88, 8, dl (lenc Msg.pd (L.take a ++ L.drop b ++ L.drop (a + (L.length - b))))⟩) (a1 := a + (L.length - b)) (b1 := L.length) (by rfl) ty34 T34_desc ty88 (by rfl) (by rfl) (by rw [T88_size]) (by rfl) (by rfl) (by omega) (by simp [dl, lenc] <;> omega) (by simp [dl, lenc] <;> omega) (by simp only [go_sem]) (hK' _ ?_))
      simp only [go_sem, ↓reduceIte]
      obtain ⟨zv, z1, z2, z3, z4⟩ := zeroPV_some T88_zero
      refine on (fun K' hK' => OpT.clear (r := 0) (lo := a + (L.length - b)) (n := L.length - (a + (L.length - b))) (row := ⟨88, 8, dl (lenc Msg.pd (L.take a ++ L.drop b ++ L.drop (a + (L.length - b))))⟩) (by rfl) ty34 T34_desc ty88 z1 z2 z3 z4 (by rfl) (by rfl) (by rw [T88_size]) (by rfl) (hK := hK' _ ?_))
      dsimp only
      rw [clr_els hab hbn]
      simp only [hput, ↓reduceIte]
      refine AOps.nil (k _ ?_)
      refine sg fun K k => ?_
      iterate 2 refine oo ?_
      refine AOps.nil (k _ ?_)
      refine AWp.ret ?_
      exact rtHand (p := .slc 0 0 (a + (L.length - b))) (hp := by simp only [go_sem, ↓reduceIte]) (hpr := by rw [hN]) (hh := rfl)
end Go.Pv.Try

namespace Go.Pv.Try
open Go.Proofs Go.Pv
theorem m_post_Net_Messages_h_ok (o1 : Net) (r : ((List Msg) × Net)) (h : m_post_Net_Messages_h o1 = some r) : ObjFn Try.prog G 22 [.ptr 0 0 0] (dynBH (blks Pst.bs o1.posts) ([(0, ⟨67, 4, [.agg [.slc 1001 0 o1.posts.length, .slc 1002 0 o1.messages.length, .slc 1003 0 o1.calls.length, .d (.int .i64 o1.clock)]]⟩), (1001, ⟨84, 7, nelB Pst.bs o1.posts⟩), (1002, ⟨88, 8, dl (lenc Msg.pd o1.messages)⟩), (1003, ⟨51, 5, dl (lenc Cal.pd o1.calls)⟩)])) (.slc 1004 0 r.1.length) (dynBH (blks Pst.bs r.2.posts) ([(0, ⟨67, 4, [.agg [.slc 1001 0 r.2.posts.length, .slc 1002 0 r.2.messages.length, .slc 1003 0 r.2.calls.length, .d (.int .i64 r.2.clock)]]⟩), (1001, ⟨84, 7, nelB Pst.bs r.2.posts⟩), (1002, ⟨88, 8, dl (lenc Msg.pd r.2.messages)⟩), (1003, ⟨51, 5, dl (lenc Cal.pd r.2.calls)⟩), (1004, ⟨88, 8, dl (lenc Msg.pd r.1)⟩)])) := by
 unfold m_post_Net_Messages_h at h
 refine ObjFn.pf Try.func22 Try.ntmps22 ?_
 refine sg fun K k => ?_
 refine oo ?_
 refine AOps.nil (k _ ?_)
 refine AWp.seq fun _ K_1 => ?_
 refine sg fun K k => ?_
 refine oo ?_
 obtain ⟨r1, hx_2, h⟩ := bind_some h
 refine clB (S := Pst.bs) [(0, 0), (1001, 1001), (1002, 1002), (1003, 1003)] [1001, 1002, 1003] [] (m_post_Net_ok_h_ok o1 _ hx_2) ?_
 refine oo ?_
 refine AOps.nil (k _ ?_)
 refine cd h (fun h => ?_) (fun h => ?_)
 ·refine sg fun K k => ?_
  refine oo ?_
  refine AOps.nil (k _ ?_)
  refine AWp.sub (Sub.void 2 88 8 1004 (by rfl) (dyBR rfl) (by decide) (by decide)) ?_
  simp (disch := decide) only [eput, hput, hput_dynBH, reduceCtorEq, ↓reduceIte, Nat.reduceAdd, Nat.reduceMul, Nat.reduceLT, Nat.reduceLeDiff, Nat.reduceEqDiff, Nat.reduceBEq, Int.reduceToNat]
  refine AWp.ret ?_
  cases h; exact rtO
 ·refine AWp.skip ?_
  refine K_1 _ ?_
  refine sg fun K k => ?_
  obtain ⟨hg_4, h⟩ := guardO_some h
  iterate 4 refine oo ?_
  refine clL 1002 1004 (lend_52 r1.2.messages hg_4) ?_
  refine oo ?_
  refine AOps.nil (k _ ?_)
  refine AWp.ret ?_
  cases h; exact rtO
end Go.Pv.Try

namespace Go.Pv.Try
open Go.Proofs Go.Pv
set_option maxHeartbeats 4000000 in
theorem m_post_Net_message_h_ok (o1 : Net) (i1 : Int) (r : (Int × Net)) (h : m_post_Net_message_h o1 i1 = some r) : ObjFn Try.prog G 51 [.ptr 0 0 0, .d (.int .i64 i1)] (dynBH (blks Pst.bs o1.posts) ([(0, ⟨67, 4, [.agg [.slc 1001 0 o1.posts.length, .slc 1002 0 o1.messages.length, .slc 1003 0 o1.calls.length, .d (.int .i64 o1.clock)]]⟩), (1001, ⟨84, 7, nelB Pst.bs o1.posts⟩), (1002, ⟨88, 8, dl (lenc Msg.pd o1.messages)⟩), (1003, ⟨51, 5, dl (lenc Cal.pd o1.calls)⟩)])) (.d (.int .i64 r.1)) (dynBH (blks Pst.bs r.2.posts) ([(0, ⟨67, 4, [.agg [.slc 1001 0 r.2.posts.length, .slc 1002 0 r.2.messages.length, .slc 1003 0 r.2.calls.length, .d (.int .i64 r.2.clock)]]⟩), (1001, ⟨84, 7, nelB Pst.bs r.2.posts⟩), (1002, ⟨88, 8, dl (lenc Msg.pd r.2.messages)⟩), (1003, ⟨51, 5, dl (lenc Cal.pd r.2.calls)⟩)])) := by
 unfold m_post_Net_message_h at h
 refine ObjFn.pf Try.func51 Try.ntmps51 ?_
 refine sg fun K k => ?_
 refine oo ?_
 refine AOps.nil (k _ ?_)
 refine AWp.seq fun _ K_1 => ?_
 refine AWp.block ?_
 refine sg fun K k => ?_
 refine oo ?_
 obtain ⟨r1, hx_2, h⟩ := bind_some h
 refine clB (S := Pst.bs) [(0, 0), (1001, 1001), (1002, 1002), (1003, 1003)] [1001, 1002, 1003] [] (m_post_Net_ok_h_ok o1 _ hx_2) ?_
 iterate 2 refine oo ?_
 refine AOps.nil (k _ ?_)
 refine cd h (fun h => ?_) (fun h => ?_)
 ·refine sg fun K k => ?_
  refine oo ?_
  refine AOps.nil (k _ ?_)
  refine AWp.ret ?_
  cases h; exact rtO
 ·refine sg fun K k => ?_
  iterate 3 refine oo ?_
  refine ctH 8 [] [0, 1001, 1002, 1003] (fun  t => (20, .d (.bool ((decide (i1 < 0)) || (decide ((r1.2.messages.length : Int) ≤ i1))))) :: t) (fun  t => dynBH (blks Pst.bs r1.2.posts) (t)) ?_ ?_
  ·rcases bt (decide (i1 < 0)) with hg_5 | hg_5
   ·rw [hg_5]
    iterate 8 refine oo ?_
    refine AOps.nil ?_
    exact sbB
   ·rw [hg_5]
    iterate 8 refine oo ?_
    refine AOps.nil ?_
    exact sbB
  refine oo ?_
  refine AOps.nil (k _ ?_)
  refine cd h (fun h => ?_) (fun h => ?_)
  ·refine sg fun K k => ?_
   refine oo ?_
   refine AOps.nil (k _ ?_)
   refine AWp.ret ?_
   cases h; exact rtO
  ·refine AWp.skip ?_
   refine K_1 _ ?_
   refine sg fun K k => ?_
   refine oo ?_
   refine AOps.nil (k _ ?_)
   refine AWp.ret ?_
   cases h; exact rtO
end Go.Pv.Try

namespace Go.Pv.Try
open Go.Proofs Go.Pv
theorem m_cmp_isNaN_131_ok (x1 : Int) (r : Bool) (h : m_cmp_isNaN_131 x1 = some r) : PureFn Try.prog G 131 [.d (.int .i64 x1)] (.d (.bool r)) := by
 unfold m_cmp_isNaN_131 at h
 refine pf Try.func131 Try.ntmps131 ?_
 refine sg fun K k => ?_
 refine oo ?_
 refine AOps.nil (k _ ?_)
 refine sg fun K k => ?_
 iterate 4 refine oo ?_
 refine AOps.nil (k _ ?_)
 refine AWp.ret ?_
 cases h; exact rt
end Go.Pv.Try

namespace Go.Pv.Try
open Go.Proofs Go.Pv
set_option maxHeartbeats 4000000 in
theorem m_cmp_Compare_108_ok (x1 : Int) (y1 : Int) (r : Int) (h : m_cmp_Compare_108 x1 y1 = some r) : PureFn Try.prog G 108 [.d (.int .i64 x1), .d (.int .i64 y1)] (.d (.int .i64 r)) := by
 unfold m_cmp_Compare_108 at h
 refine pf Try.func108 Try.ntmps108 ?_
 refine sg fun K k => ?_
 refine oo ?_
 refine AOps.nil (k _ ?_)
 refine sg fun K k => ?_
 refine oo ?_
 obtain ⟨r1, hx_1, h⟩ := bind_some h
 refine cl (m_cmp_isNaN_131_ok x1 _ hx_1) ?_
 refine oo ?_
 refine AOps.nil (k _ ?_)
 refine sg fun K k => ?_
 refine oo ?_
 obtain ⟨r2, hx_2, h⟩ := bind_some h
 refine cl (m_cmp_isNaN_131_ok y1 _ hx_2) ?_
 refine oo ?_
 refine AOps.nil (k _ ?_)
 refine AWp.seq fun _ K_3 => ?_
 refine sg fun K k => ?_
 refine oo ?_
 refine AOps.nil (k _ ?_)
 refine cd h (fun h => ?_) (fun h => ?_)
 ·refine AWp.seq fun _ K_5 => ?_
  refine sg fun K k => ?_
  refine oo ?_
  refine AOps.nil (k _ ?_)
  refine cd h (fun h => ?_) (fun h => ?_)
  ·refine sg fun K k => ?_
   refine oo ?_
   refine AOps.nil (k _ ?_)
   refine AWp.ret ?_
   cases h; exact rt
  ·refine AWp.skip ?_
   refine K_5 _ ?_
   refine sg fun K k => ?_
   refine oo ?_
   refine AOps.nil (k _ ?_)
   refine AWp.ret ?_
   cases h; exact rt
 ·refine AWp.skip ?_
  refine K_3 _ ?_
  refine AWp.seq fun _ K_7 => ?_
  refine sg fun K k => ?_
  refine oo ?_
  refine AOps.nil (k _ ?_)
  refine cd h (fun h => ?_) (fun h => ?_)
  ·refine sg fun K k => ?_
   refine oo ?_
   refine AOps.nil (k _ ?_)
   refine AWp.ret ?_
   cases h; exact rt
  ·refine AWp.skip ?_
   refine K_7 _ ?_
   refine AWp.seq fun _ K_9 => ?_
   refine sg fun K k => ?_
   iterate 3 refine oo ?_
   refine AOps.nil (k _ ?_)
   refine cd h (fun h => ?_) (fun h => ?_)
   ·refine sg fun K k => ?_
    refine oo ?_
    refine AOps.nil (k _ ?_)
    refine AWp.ret ?_
    cases h; exact rt
   ·refine AWp.skip ?_
    refine K_9 _ ?_
    refine AWp.seq fun _ K_11 => ?_
    refine sg fun K k => ?_
    iterate 3 refine oo ?_
    refine AOps.nil (k _ ?_)
    refine cd h (fun h => ?_) (fun h => ?_)
    ·refine sg fun K k => ?_
     refine oo ?_
     refine AOps.nil (k _ ?_)
     refine AWp.ret ?_
     cases h; exact rt
    ·refine AWp.skip ?_
     refine K_11 _ ?_
     refine sg fun K k => ?_
     refine oo ?_
     refine AOps.nil (k _ ?_)
     refine AWp.ret ?_
     cases h; exact rt
end Go.Pv.Try

namespace Go.Pv.Try
open Go.Proofs Go.Pv
set_option maxHeartbeats 4000000 in
theorem m_cmp_Or_107_ok (vals1 : (List Int)) (r : Int) (h : m_cmp_Or_107 vals1 = some r) : PureFn Try.prog G 107 [.d (.imm 1 (lenc (PD.int .i64) vals1))] (.d (.int .i64 r)) := by
 unfold m_cmp_Or_107 at h
 refine pf Try.func107 Try.ntmps107 ?_
 refine sg fun K k => ?_
 refine oo ?_
 refine AOps.nil (k _ ?_)
 refine sg fun K k => ?_
 refine oo ?_
 refine AOps.nil (k _ ?_)
 refine jm (ι := Unit) [3] [] (fun i t => t) (fun i t => t) .inl h ?_ ?_
 ·intro _ hj_2 h
  refine sg fun K k => ?_
  iterate 3 refine oo ?_
  refine AOps.nil (k _ ?_)
  refine AWp.block ?_
  obtain ⟨x_7, hl_4, h2_5⟩ := bind_some hj_2
  refine lp (S := Int) [3, 6, 7] [] (fun i t => (8, .d (.int .i64 i)) :: t) (fun i t => t) hl_4 ?_ ?_; exact sb; clear hl_4
  rintro v1 _ hb_6; unfold m_cmp_Or_107_l1 at hb_6; try dsimp only at hb_6
  try dsimp only
  refine sg fun K k => ?_
  refine oo ?_
  refine AOps.nil (k _ ?_)
  refine AWp.seq fun _ K_9 => ?_
  refine cd hb_6 (fun hb_6 => ?_) (fun hb_6 => ?_)
  ·refine AWp.skip ?_
   refine K_9 _ ?_
   refine AWp.seq fun _ K_11 => ?_
   refine AWp.block ?_
   refine sg fun K k => ?_
   obtain ⟨e1, ⟨f_12, f_13, f_14, f_15⟩, hb_6⟩ := idx_bind hb_6
   refine oo ?_
   refine oo ?_ (by intro K k; simp (disch := omega) only [go_sem, f_14, ↓reduceIte]; exact k)
   refine oo ?_
   refine AOps.nil (k _ ?_)
   refine sg fun K k => ?_
   iterate 3 refine oo ?_
   refine AOps.nil (k _ ?_)
   refine cd hb_6 (fun hb_6 => ?_) (fun hb_6 => ?_)
   ·refine sg fun K k => ?_
    iterate 2 refine oo ?_
    refine AOps.nil (k _ ?_)
    refine AWp.ret ?_
    refine lx hb_6 fun hx => ?_; cases hx; try dsimp only at h2_5
    cases h2_5; try dsimp only at h
    cases h; exact rt
   ·refine AWp.skip ?_
    refine K_11 _ ?_
    refine AWp.reg ?_
    iterate 2 refine oo ?_
    refine AOps.nil ?_
    exact ln hb_6 sb
  ·refine AWp.exit ?_
   refine lx hb_6 fun hx => ?_; cases hx; try dsimp only at h2_5
   exact ln h2_5 sb
 ·rintro _ h; dsimp only at h ⊢
  refine sg fun K k => ?_
  iterate 2 refine oo ?_
  refine AOps.nil (k _ ?_)
  refine AWp.ret ?_
  cases h; exact rt
end Go.Pv.Try

namespace Go.Pv.Try
open Go.Proofs Go.Pv
theorem m_post_greater_ok (a1 : Stamp) (b1 : Stamp) (r : Bool) (h : m_post_greater a1 b1 = some r) : PureFn Try.prog G 87 [.d (.agg [(.int .i64 a1.No), (.int .i64 a1.Post), (.int .i64 a1.Turn)]), .d (.agg [(.int .i64 b1.No), (.int .i64 b1.Post), (.int .i64 b1.Turn)])] (.d (.bool r)) := by
 unfold m_post_greater at h
 refine pf Try.func87 Try.ntmps87 ?_
 refine sg fun K k => ?_
 iterate 3 refine oo ?_
 refine AOps.nil (k _ ?_)
 refine sd mo fun K k => ?_
 iterate 4 refine dd ?_
 obtain ⟨r1, hx_1, h⟩ := bind_some h
 refine dcl (m_cmp_Compare_108_ok a1.No b1.No _ hx_1) ?_
 iterate 4 refine dd ?_
 obtain ⟨r2, hx_2, h⟩ := bind_some h
 refine dcl (m_cmp_Compare_108_ok a1.Post b1.Post _ hx_2) ?_
 iterate 4 refine dd ?_
 obtain ⟨r3, hx_3, h⟩ := bind_some h
 refine dcl (m_cmp_Compare_108_ok a1.Turn b1.Turn _ hx_3) ?_
 refine ddl ?_
 obtain ⟨r4, hx_4, h⟩ := bind_some h
 refine dcl (m_cmp_Or_107_ok [r1, r2, r3] _ hx_4) ?_
 iterate 2 refine dd ?_
 refine DOps.nil (by kernel_rfl) (k _ ?_)
 refine AWp.ret ?_
 cases h; exact rt
end Go.Pv.Try

namespace Go.Pv.Try
open Go.Proofs Go.Pv
set_option maxHeartbeats 4000000 in
theorem m_post_work_majority_h_ok (o1 : Work) (r : (Bool × Work)) (h : m_post_work_majority_h o1 = some r) : ObjFn Try.prog G 88 [.ptr 0 0 0] [(0, ⟨103, 9, [.agg [.d (.int .i64 o1.turn), .d (.int .i64 o1.call), .d (.bool o1.write), .d (.bool o1.puts), .d (.int .i64 o1.stamp.No), .d (.int .i64 o1.stamp.Post), .d (.int .i64 o1.stamp.Turn), .d (.int .i64 o1.value), .slc 1001 0 o1.answered.length]]⟩), (1001, ⟨4, 1, dl (lenc PD.bool o1.answered)⟩)] (.d (.bool r.1)) [(0, ⟨103, 9, [.agg [.d (.int .i64 r.2.turn), .d (.int .i64 r.2.call), .d (.bool r.2.write), .d (.bool r.2.puts), .d (.int .i64 r.2.stamp.No), .d (.int .i64 r.2.stamp.Post), .d (.int .i64 r.2.stamp.Turn), .d (.int .i64 r.2.value), .slc 1001 0 r.2.answered.length]]⟩), (1001, ⟨4, 1, dl (lenc PD.bool r.2.answered)⟩)] := by
 unfold m_post_work_majority_h at h
 refine ObjFn.pf Try.func88 Try.ntmps88 ?_
 refine sg fun K k => ?_
 refine oo ?_
 refine AOps.nil (k _ ?_)
 refine sg fun K k => ?_
 refine oo ?_
 refine AOps.nil (k _ ?_)
 refine jn (α := Int) [0] [0, 1001] (fun i t => (3, .d (.int .i64 i)) :: t) (fun i t => t) h ?_ ?_
 ·intro _ hj_2
  refine sg fun K k => ?_
  iterate 6 refine oo ?_
  refine AOps.nil (k _ ?_)
  refine AWp.block ?_
  obtain ⟨x_7, hl_4, h2_5⟩ := bind_some hj_2
  refine lp (S := (Int × Int)) [0, 9, 10] [0, 1001] (fun i t => (3, .d (.int .i64 i.1)) :: (11, .d (.int .i64 i.2)) :: t) (fun i t => t) hl_4 ?_ ?_; exact sb; clear hl_4
  rintro ⟨n2, v1⟩ _ hb_6; unfold m_post_work_majority_h_l1 at hb_6; try dsimp only at hb_6
  try dsimp only
  refine sg fun K k => ?_
  refine oo ?_
  refine AOps.nil (k _ ?_)
  refine AWp.seq fun _ K_9 => ?_
  refine cd hb_6 (fun hb_6 => ?_) (fun hb_6 => ?_)
  ·refine AWp.skip ?_
   refine K_9 _ ?_
   refine jn (α := Int) [0, 9, 10, 11] [0, 1001] (fun i t => (3, .d (.int .i64 i)) :: t) (fun i t => t) hb_6 ?_ ?_
   ·intro _ hj_12
    refine AWp.block ?_
    refine sg fun K k => ?_
    obtain ⟨e1, ⟨f_13, f_14, f_15, f_16⟩, hj_12⟩ := idx_bind hj_12
    refine oo ?_
    refine oo ?_ (by intro K k; simp (disch := omega) only [go_sem, f_15, ↓reduceIte]; exact k)
    refine oo ?_
    refine AOps.nil (k _ ?_)
    refine sg fun K k => ?_
    refine oo ?_
    refine AOps.nil (k _ ?_)
    refine cd hj_12 (fun hj_12 => ?_) (fun hj_12 => ?_)
    ·refine AWp.reg ?_
     iterate 3 refine oo ?_
     refine AOps.nil ?_
     cases hj_12; exact sb
    ·refine AWp.skip ?_
     cases hj_12; exact sb
   ·rintro n3 hb_6; dsimp only at hb_6 ⊢
    refine AWp.reg ?_
    iterate 2 refine oo ?_
    refine AOps.nil ?_
    exact ln hb_6 sb
  ·refine AWp.exit ?_
   refine lx hb_6 fun hx => ?_; cases hx; try dsimp only at h2_5
   cases h2_5; exact sb
 ·rintro n1 h; dsimp only at h ⊢
  refine sg fun K k => ?_
  iterate 9 refine oo ?_
  refine AOps.nil (k _ ?_)
  refine AWp.ret ?_
  cases h; exact rtO
end Go.Pv.Try

namespace Go.Pv.Try
open Go.Proofs Go.Pv
set_option maxHeartbeats 4000000 in
theorem m_post_Net_told_h_ok (o1 : Net) (k1 : Int) (m1 : Msg) (r : Net) (h : m_post_Net_told_h o1 k1 m1 = some r) : ObjFn Try.prog G 86 [.ptr 0 0 0, .ptr 1001 ((k1).toNat) 0, .d (.agg [(.int .i64 m1.Kind), (.int .i64 m1.From), (.int .i64 m1.To), (.int .i64 m1.Turn), (.int .i64 m1.Stamp.No), (.int .i64 m1.Stamp.Post), (.int .i64 m1.Stamp.Turn), (.int .i64 m1.Value)])] (dynBH (blks Pst.bs o1.posts) ([(0, ⟨67, 4, [.agg [.slc 1001 0 o1.posts.length, .slc 1002 0 o1.messages.length, .slc 1003 0 o1.calls.length, .d (.int .i64 o1.clock)]]⟩), (1001, ⟨84, 7, nelB Pst.bs o1.posts⟩), (1002, ⟨88, 8, dl (lenc Msg.pd o1.messages)⟩), (1003, ⟨51, 5, dl (lenc Cal.pd o1.calls)⟩)])) (.tuple []) (dynBH (blks Pst.bs r.posts) ([(0, ⟨67, 4, [.agg [.slc 1001 0 r.posts.length, .slc 1002 0 r.messages.length, .slc 1003 0 r.calls.length, .d (.int .i64 r.clock)]]⟩), (1001, ⟨84, 7, nelB Pst.bs r.posts⟩), (1002, ⟨88, 8, dl (lenc Msg.pd r.messages)⟩), (1003, ⟨51, 5, dl (lenc Cal.pd r.calls)⟩)])) := by
 unfold m_post_Net_told_h at h
 refine ObjFn.pf Try.func86 Try.ntmps86 ?_
 refine sg fun K k => ?_
 refine oo ?_
 refine AOps.nil (k _ ?_)
 obtain ⟨e1, ⟨f_1, f_2, f_3, f_4⟩, h⟩ := idx_bind h
 rcases optB_case h with ⟨hw_5, h⟩ | ⟨w1, hw_5, h⟩
 ·have hF_6 := fun p => nelB_hole (S := Pst.bs) f_3 p
  have hwS_7 : Pst.bs.wk e1 = none := hw_5
  refine AWp.sub (opN (S := Pst.bs) ((k1).toNat) f_3 hwS_7 (hl := by rw [nelB_open f_3 hwS_7, Pst_F])) ?_
  refine sg fun K k => ?_
  iterate 3 refine oo ?_
  refine oo ?_ (by intro K k; simp (disch := omega) only [go_sem, hF_6, List.set_set, ↓reduceIte]; exact k)
  refine oo ?_
  refine AOps.nil (k _ ?_)
  refine AWp.seq fun _ K_8 => ?_
  refine sd mo fun K k => ?_
  iterate 27 refine dd ?_
  refine DOps.nil (by kernel_rfl) (k _ ?_)
  refine cdt ?_
  refine AWp.sub (τ := ⟨[(0, .ptr 0 0 0), (1, .ptr 1001 ((k1).toNat) 0), (2, .d (.agg [(.int .i64 m1.Kind), (.int .i64 m1.From), (.int .i64 m1.To), (.int .i64 m1.Turn), (.int .i64 m1.Stamp.No), (.int .i64 m1.Stamp.Post), (.int .i64 m1.Stamp.Turn), (.int .i64 m1.Value)])), (5, .ptr 1004 0 0), (6, .d .nilptr), (7, .ptr 1001 ((k1).toNat) 0), (8, .ptr 1001 ((k1).toNat) 0), (9, .ptr 1001 ((k1).toNat) 6), (10, .d .nilptr), (11, .d .nilptr), (12, .d (.bool true)), (13, .d (.bool true)), (14, .tuple []), (15, .tuple []), (16, .tuple []), (17, .tuple []), (18, .tuple []), (19, .tuple []), (20, .tuple []), (21, .d (.bool true)), (22, .d (.bool true)), (23, .tuple []), (24, .tuple []), (25, .tuple []), (26, .tuple []), (27, .d (.bool true)), (28, .d (.bool true)), (29, .tuple []), (30, .tuple []), (31, .tuple []), (32, .tuple []), (33, .tuple []), (34, .tuple []), (35, .tuple []), (36, .tuple []), (37, .d (.bool true))], (dynBH ((blks Pst.bs o1.posts).set ((k1).toNat) []) ([(0, ⟨67, 4, [.agg [.slc 1001 0 o1.posts.length, .slc 1002 0 o1.messages.length, .slc 1003 0 o1.calls.length, .d (.int .i64 o1.clock)]]⟩), (1001, ⟨84, 7, (nelB Pst.bs o1.posts).set ((k1).toNat) (.agg [.d (.bool e1.up), .d (.int .i64 e1.stamp.No), .d (.int .i64 e1.stamp.Post), .d (.int .i64 e1.stamp.Turn), .d (.int .i64 e1.value), .d (.int .i64 e1.turns), .d .nilptr])⟩), (1002, ⟨88, 8, dl (lenc Msg.pd o1.messages)⟩), (1003, ⟨51, 5, dl (lenc Cal.pd o1.calls)⟩), (1004, ⟨88, 8, [.d (.agg [(.int .i64 m1.Kind), (.int .i64 m1.From), (.int .i64 m1.To), (.int .i64 m1.Turn), (.int .i64 m1.Stamp.No), (.int .i64 m1.Stamp.Post), (.int .i64 m1.Stamp.Turn), (.int .i64 m1.Value)])]⟩)])), [], none⟩) sbB ?_
  refine AWp.sub (shN (S := Pst.bs) ((k1).toNat) (L := o1.posts) (⟨e1.up, e1.stamp, e1.value, e1.turns, none⟩ : Pst) [(0, ⟨67, 4, [.agg [.slc 1001 0 o1.posts.length, .slc 1002 0 o1.messages.length, .slc 1003 0 o1.calls.length, .d (.int .i64 o1.clock)]]⟩), (1001, ⟨84, 7, nelB Pst.bs (o1.posts.set ((k1).toNat) (⟨e1.up, e1.stamp, e1.value, e1.turns, none⟩ : Pst))⟩), (1002, ⟨88, 8, dl (lenc Msg.pd o1.messages)⟩), (1003, ⟨51, 5, dl (lenc Cal.pd o1.calls)⟩), (1004, ⟨88, 8, [.d (.agg [(.int .i64 m1.Kind), (.int .i64 m1.From), (.int .i64 m1.To), (.int .i64 m1.Turn), (.int .i64 m1.Stamp.No), (.int .i64 m1.Stamp.Post), (.int .i64 m1.Stamp.Turn), (.int .i64 m1.Value)])]⟩)] rfl (hl := by rw [← nelB_set (S := Pst.bs) (L := o1.posts) (i := ((k1).toNat)) (x := (⟨e1.up, e1.stamp, e1.value, e1.turns, none⟩ : Pst)) _ rfl]; rfl)) ?_
  refine AWp.ret ?_
  cases h; exact rtO
 ·have hF_9 := fun p => nelB_hole (S := Pst.bs) f_3 p
  have hwS_10 : Pst.bs.wk e1 = some w1 := hw_5
  refine AWp.sub (opS (S := Pst.bs) ((k1).toNat) 1005 1006 (⟨103, 9, [.agg [.d (.int .i64 w1.turn), .d (.int .i64 w1.call), .d (.bool w1.write), .d (.bool w1.puts), .d (.int .i64 w1.stamp.No), .d (.int .i64 w1.stamp.Post), .d (.int .i64 w1.stamp.Turn), .d (.int .i64 w1.value), .slc 1006 0 w1.answered.length]]⟩ : Row) (⟨4, 1, dl (lenc PD.bool w1.answered)⟩ : Row) f_3 hwS_10 (hl := by (simp only [renHeap, Row.ren, renL, PV.ren, dl_ren, focB_low, nelB_focus f_3 hwS_10, Nat.reduceLT, Pst_F]; rfl))) ?_
  refine sg fun K k => ?_
  iterate 3 refine oo ?_
  refine oo ?_ (by intro K k; simp (disch := omega) only [go_sem, hF_9, List.set_set, ↓reduceIte]; exact k)
  refine oo ?_
  refine AOps.nil (k _ ?_)
  refine AWp.seq fun _ K_11 => ?_
  refine sd mo fun K k => ?_
  iterate 12 refine dd ?_
  rcases bt (decide (¬w1.turn = m1.Turn)) with hg_12 | hg_12
  ·rw [hg_12]
   replace h := condT hg_12 h
   iterate 15 refine dd ?_
   refine DOps.nil (by kernel_rfl) (k _ ?_)
   refine cdt ?_
   refine AWp.sub (drp [(0, .ptr 0 0 0), (1, .ptr 1001 ((k1).toNat) 0), (2, .d (.agg [(.int .i64 m1.Kind), (.int .i64 m1.From), (.int .i64 m1.To), (.int .i64 m1.Turn), (.int .i64 m1.Stamp.No), (.int .i64 m1.Stamp.Post), (.int .i64 m1.Stamp.Turn), (.int .i64 m1.Value)])), (5, .ptr 1004 0 0), (7, .ptr 1001 ((k1).toNat) 0), (8, .ptr 1001 ((k1).toNat) 0), (9, .ptr 1001 ((k1).toNat) 6), (12, .d (.bool false)), (13, .d (.bool false)), (17, .d (.int .i64 w1.turn)), (18, .ptr 1004 0 3), (19, .d (.int .i64 m1.Turn)), (20, .d (.bool true)), (21, .d (.bool true)), (22, .d (.bool true)), (23, .tuple []), (24, .tuple []), (25, .tuple []), (26, .tuple []), (27, .d (.bool true)), (28, .d (.bool true)), (29, .tuple []), (30, .tuple []), (31, .tuple []), (32, .tuple []), (33, .tuple []), (34, .tuple []), (35, .tuple []), (36, .tuple []), (37, .d (.bool true))]) ?_
   refine AWp.sub (shS (S := Pst.bs) ((k1).toNat) 1005 1006 (⟨e1.up, e1.stamp, e1.value, e1.turns, (some w1)⟩ : Pst) [(0, ⟨67, 4, [.agg [.slc 1001 0 o1.posts.length, .slc 1002 0 o1.messages.length, .slc 1003 0 o1.calls.length, .d (.int .i64 o1.clock)]]⟩), (1001, ⟨84, 7, nelB Pst.bs (o1.posts.set ((k1).toNat) (⟨e1.up, e1.stamp, e1.value, e1.turns, (some w1)⟩ : Pst))⟩), (1002, ⟨88, 8, dl (lenc Msg.pd o1.messages)⟩), (1003, ⟨51, 5, dl (lenc Cal.pd o1.calls)⟩), (1004, ⟨88, 8, [.d (.agg [(.int .i64 m1.Kind), (.int .i64 m1.From), (.int .i64 m1.To), (.int .i64 m1.Turn), (.int .i64 m1.Stamp.No), (.int .i64 m1.Stamp.Post), (.int .i64 m1.Stamp.Turn), (.int .i64 m1.Value)])]⟩)] f_3 rfl (hl := by (repeat' (first | exact trivial | exact rfl | exact dl_ren _ _ | exact nelB_unfocus (S := Pst.bs) (q0 := 1005) (q1 := 1006) (x := (⟨e1.up, e1.stamp, e1.value, e1.turns, (some w1)⟩ : Pst)) f_3 rfl (by decide) (by decide) | (simp only [renL, PV.ren, List.length_append, List.length_set, List.length_replicate, List.length_cons, List.length_nil, Nat.zero_add] <;> exact rfl) | apply And.intro)))) ?_
   refine AWp.ret ?_
   cases h; exact rtO
  ·rw [hg_12]
   replace h := condF hg_12 h
   iterate 6 refine dd ?_
   rcases bt w1.puts with hg_13 | hg_13
   ·rw [hg_13]
    replace h := condT hg_13 h
    iterate 9 refine dd ?_
    refine DOps.nil (by kernel_rfl) (k _ ?_)
    refine cdt ?_
    refine AWp.sub (drp [(0, .ptr 0 0 0), (1, .ptr 1001 ((k1).toNat) 0), (2, .d (.agg [(.int .i64 m1.Kind), (.int .i64 m1.From), (.int .i64 m1.To), (.int .i64 m1.Turn), (.int .i64 m1.Stamp.No), (.int .i64 m1.Stamp.Post), (.int .i64 m1.Stamp.Turn), (.int .i64 m1.Value)])), (5, .ptr 1004 0 0), (7, .ptr 1001 ((k1).toNat) 0), (8, .ptr 1001 ((k1).toNat) 0), (9, .ptr 1001 ((k1).toNat) 6), (12, .d (.bool false)), (13, .d (.bool false)), (17, .d (.int .i64 w1.turn)), (18, .ptr 1004 0 3), (19, .d (.int .i64 m1.Turn)), (20, .d (.bool false)), (21, .d (.bool false)), (22, .d (.bool false)), (26, .d (.bool true)), (27, .d (.bool true)), (28, .d (.bool true)), (29, .tuple []), (30, .tuple []), (31, .tuple []), (32, .tuple []), (33, .tuple []), (34, .tuple []), (35, .tuple []), (36, .tuple []), (37, .d (.bool true))]) ?_
    refine AWp.sub (shS (S := Pst.bs) ((k1).toNat) 1005 1006 (⟨e1.up, e1.stamp, e1.value, e1.turns, (some (⟨w1.turn, w1.call, w1.write, true, w1.stamp, w1.value, w1.answered⟩ : Work))⟩ : Pst) [(0, ⟨67, 4, [.agg [.slc 1001 0 o1.posts.length, .slc 1002 0 o1.messages.length, .slc 1003 0 o1.calls.length, .d (.int .i64 o1.clock)]]⟩), (1001, ⟨84, 7, nelB Pst.bs (o1.posts.set ((k1).toNat) (⟨e1.up, e1.stamp, e1.value, e1.turns, (some (⟨w1.turn, w1.call, w1.write, true, w1.stamp, w1.value, w1.answered⟩ : Work))⟩ : Pst))⟩), (1002, ⟨88, 8, dl (lenc Msg.pd o1.messages)⟩), (1003, ⟨51, 5, dl (lenc Cal.pd o1.calls)⟩), (1004, ⟨88, 8, [.d (.agg [(.int .i64 m1.Kind), (.int .i64 m1.From), (.int .i64 m1.To), (.int .i64 m1.Turn), (.int .i64 m1.Stamp.No), (.int .i64 m1.Stamp.Post), (.int .i64 m1.Stamp.Turn), (.int .i64 m1.Value)])]⟩)] f_3 rfl (hl := by (repeat' (first | exact trivial | exact rfl | exact dl_ren _ _ | exact nelB_unfocus (S := Pst.bs) (q0 := 1005) (q1 := 1006) (x := (⟨e1.up, e1.stamp, e1.value, e1.turns, (some (⟨w1.turn, w1.call, w1.write, true, w1.stamp, w1.value, w1.answered⟩ : Work))⟩ : Pst)) f_3 rfl (by decide) (by decide) | (simp only [renL, PV.ren, List.length_append, List.length_set, List.length_replicate, List.length_cons, List.length_nil, Nat.zero_add] <;> exact rfl) | apply And.intro)))) ?_
    refine AWp.ret ?_
    cases h; exact rtO
   ·rw [hg_13]
    replace h := condF hg_13 h
    obtain ⟨e2, ⟨f_14, f_15, f_16, f_17⟩, h⟩ := idx_bind h
    iterate 7 refine dd ?_
    refine dd ?_ (by intro K k; simp (disch := omega) only [go_sem, f_16, ↓reduceIte]; exact k)
    refine dd ?_
    refine DOps.nil (by kernel_rfl) (k _ ?_)
    refine cd h (fun h => ?_) (fun h => ?_)
    ·refine AWp.sub (drp [(0, .ptr 0 0 0), (1, .ptr 1001 ((k1).toNat) 0), (2, .d (.agg [(.int .i64 m1.Kind), (.int .i64 m1.From), (.int .i64 m1.To), (.int .i64 m1.Turn), (.int .i64 m1.Stamp.No), (.int .i64 m1.Stamp.Post), (.int .i64 m1.Stamp.Turn), (.int .i64 m1.Value)])), (5, .ptr 1004 0 0), (7, .ptr 1001 ((k1).toNat) 0), (8, .ptr 1001 ((k1).toNat) 0), (9, .ptr 1001 ((k1).toNat) 6), (12, .d (.bool false)), (13, .d (.bool false)), (17, .d (.int .i64 w1.turn)), (18, .ptr 1004 0 3), (19, .d (.int .i64 m1.Turn)), (20, .d (.bool false)), (21, .d (.bool false)), (22, .d (.bool false)), (26, .d (.bool false)), (27, .d (.bool false)), (28, .d (.bool false)), (33, .ptr 1004 0 1), (34, .d (.int .i64 m1.From)), (36, .d (.bool e2)), (37, .d (.bool e2))]) ?_
     refine AWp.sub (shS (S := Pst.bs) ((k1).toNat) 1005 1006 (⟨e1.up, e1.stamp, e1.value, e1.turns, (some (⟨w1.turn, w1.call, w1.write, false, w1.stamp, w1.value, w1.answered⟩ : Work))⟩ : Pst) [(0, ⟨67, 4, [.agg [.slc 1001 0 o1.posts.length, .slc 1002 0 o1.messages.length, .slc 1003 0 o1.calls.length, .d (.int .i64 o1.clock)]]⟩), (1001, ⟨84, 7, nelB Pst.bs (o1.posts.set ((k1).toNat) (⟨e1.up, e1.stamp, e1.value, e1.turns, (some (⟨w1.turn, w1.call, w1.write, false, w1.stamp, w1.value, w1.answered⟩ : Work))⟩ : Pst))⟩), (1002, ⟨88, 8, dl (lenc Msg.pd o1.messages)⟩), (1003, ⟨51, 5, dl (lenc Cal.pd o1.calls)⟩), (1004, ⟨88, 8, [.d (.agg [(.int .i64 m1.Kind), (.int .i64 m1.From), (.int .i64 m1.To), (.int .i64 m1.Turn), (.int .i64 m1.Stamp.No), (.int .i64 m1.Stamp.Post), (.int .i64 m1.Stamp.Turn), (.int .i64 m1.Value)])]⟩)] f_3 rfl (hl := by (repeat' (first | exact trivial | exact rfl | exact dl_ren _ _ | exact nelB_unfocus (S := Pst.bs) (q0 := 1005) (q1 := 1006) (x := (⟨e1.up, e1.stamp, e1.value, e1.turns, (some (⟨w1.turn, w1.call, w1.write, false, w1.stamp, w1.value, w1.answered⟩ : Work))⟩ : Pst)) f_3 rfl (by decide) (by decide) | (simp only [renL, PV.ren, List.length_append, List.length_set, List.length_replicate, List.length_cons, List.length_nil, Nat.zero_add] <;> exact rfl) | apply And.intro)))) ?_
     refine AWp.ret ?_
     cases h; exact rtO
    ·refine AWp.skip ?_
     refine K_11 _ ?_
     refine sd mo fun K k => ?_
     obtain ⟨e3, ⟨f_19, f_20, f_21, f_22⟩, h⟩ := idx_bind h
     iterate 7 refine dd ?_
     refine dd ?_ (by intro K k; simp (disch := omega) only [go_sem, f_21, ↓reduceIte]; exact k)
     refine DOps.nil (by kernel_rfl) (k _ ?_)
     refine jn (α := (Int × Int × Int × Int)) [0, 5] [0, 1001, 1002, 1003, 1004, 1006] (fun i t => (6, .ptr 1005 0 0) :: t) (fun i t => dynBH ((blks Pst.bs o1.posts).set ((k1).toNat) []) ((1005, ⟨103, 9, [.agg [.d (.int .i64 w1.turn), .d (.int .i64 w1.call), .d (.bool w1.write), .d (.bool false), .d (.int .i64 i.1), .d (.int .i64 i.2.1), .d (.int .i64 i.2.2.1), .d (.int .i64 i.2.2.2), .slc 1006 0 w1.answered.length]]⟩) :: t)) h ?_ ?_
     ·intro _ hj_24
      refine sd mo fun K k => ?_
      iterate 6 refine dd ?_
      obtain ⟨r1, hx_25, hj_24⟩ := bind_some hj_24
      refine dcl (m_post_greater_ok m1.Stamp w1.stamp _ hx_25) ?_
      refine DOps.nil (by kernel_rfl) (k _ ?_)
      refine cd hj_24 (fun hj_24 => ?_) (fun hj_24 => ?_)
      ·refine sg fun K k => ?_
       iterate 6 refine oo ?_
       refine AOps.nil (k _ ?_)
       refine sg fun K k => ?_
       iterate 5 refine oo ?_
       refine AOps.nil (k _ ?_)
       refine cd hj_24 (fun hj_24 => ?_) (fun hj_24 => ?_)
       ·refine AWp.reg ?_
        iterate 6 refine oo ?_
        refine AOps.nil ?_
        cases hj_24; exact sbB
       ·refine AWp.skip ?_
        cases hj_24; exact sbB
      ·refine AWp.skip ?_
       cases hj_24; exact sbB
     ·rintro ⟨c1, c2, c3, c4⟩ h; dsimp only at h ⊢
      refine AWp.seq fun _ K_28 => ?_
      refine sg fun K k => ?_
      refine oo ?_
      obtain ⟨r2, hx_29, h⟩ := bind_some h
      refine clW [(0, 1005), (1001, 1006)] [1006] [] (m_post_work_majority_h_ok (⟨w1.turn, w1.call, w1.write, false, (⟨c1, c2, c3⟩ : Stamp), c4, (w1.answered.set (m1.From).toNat true)⟩ : Work) _ hx_29) ?_
      refine oo ?_
      refine AOps.nil (k _ ?_)
      refine cd h (fun h => ?_) (fun h => ?_)
      ·refine AWp.sub (drp [(0, .ptr 0 0 0), (5, .ptr 1004 0 0), (68, .d (.bool r2.1)), (69, .d (.bool (!r2.1)))]) ?_
       refine AWp.sub (shS (S := Pst.bs) ((k1).toNat) 1005 1006 (⟨e1.up, e1.stamp, e1.value, e1.turns, (some r2.2)⟩ : Pst) [(0, ⟨67, 4, [.agg [.slc 1001 0 o1.posts.length, .slc 1002 0 o1.messages.length, .slc 1003 0 o1.calls.length, .d (.int .i64 o1.clock)]]⟩), (1001, ⟨84, 7, nelB Pst.bs (o1.posts.set ((k1).toNat) (⟨e1.up, e1.stamp, e1.value, e1.turns, (some r2.2)⟩ : Pst))⟩), (1002, ⟨88, 8, dl (lenc Msg.pd o1.messages)⟩), (1003, ⟨51, 5, dl (lenc Cal.pd o1.calls)⟩), (1004, ⟨88, 8, [.d (.agg [(.int .i64 m1.Kind), (.int .i64 m1.From), (.int .i64 m1.To), (.int .i64 m1.Turn), (.int .i64 m1.Stamp.No), (.int .i64 m1.Stamp.Post), (.int .i64 m1.Stamp.Turn), (.int .i64 m1.Value)])]⟩)] f_3 rfl (hl := by (repeat' (first | exact trivial | exact rfl | exact dl_ren _ _ | exact nelB_unfocus (S := Pst.bs) (q0 := 1005) (q1 := 1006) (x := (⟨e1.up, e1.stamp, e1.value, e1.turns, (some r2.2)⟩ : Pst)) f_3 rfl (by decide) (by decide) | (simp only [renL, PV.ren, List.length_append, List.length_set, List.length_replicate, List.length_cons, List.length_nil, Nat.zero_add] <;> exact rfl) | apply And.intro)))) ?_
       refine AWp.ret ?_
       cases h; exact rtO
      ·refine AWp.skip ?_
       refine K_28 _ ?_
       refine jn (α := (Int × Int × Int)) [0, 5] [0, 1001, 1002, 1003, 1004, 1006] (fun i t => (6, .ptr 1005 0 0) :: t) (fun i t => dynBH ((blks Pst.bs o1.posts).set ((k1).toNat) []) ((1005, ⟨103, 9, [.agg [.d (.int .i64 r2.2.turn), .d (.int .i64 r2.2.call), .d (.bool r2.2.write), .d (.bool r2.2.puts), .d (.int .i64 i.1), .d (.int .i64 i.2.1), .d (.int .i64 i.2.2), .d (.int .i64 r2.2.value), .slc 1006 0 r2.2.answered.length]]⟩) :: t)) h ?_ ?_
       ·intro _ hj_32
        refine sg fun K k => ?_
        iterate 4 refine oo ?_
        refine AOps.nil (k _ ?_)
        refine cd hj_32 (fun hj_32 => ?_) (fun hj_32 => ?_)
        ·refine AWp.draw mo [] trivial ?_
         iterate 17 refine dd ?_
         refine DOps.nil (by kernel_rfl) ?_
         cases hj_32; exact sbB
        ·refine AWp.skip ?_
         cases hj_32; exact sbB
       ·rintro ⟨c5, c6, c7⟩ h; dsimp only at h ⊢
        refine sd mo fun K k => ?_
        obtain ⟨hg_34, h⟩ := guardO_some h
        iterate 14 refine dd ?_
        refine DOps.nil (by kernel_rfl) (k _ ?_)
        refine AWp.draw mo [] trivial ?_
        iterate 16 refine dd ?_
        refine DOps.stop (by kernel_rfl) ?_
        refine AOps.sub (τ := ⟨[(102, .ptr 0 0 0), (117, .d (.agg [(.int .i64 3), (.int .i64 m1.To), (.int .i64 0), (.int .i64 r2.2.turn), (.int .i64 c5), (.int .i64 c6), (.int .i64 c7), (.int .i64 r2.2.value)]))], (dynBH ((blks Pst.bs o1.posts).set ((k1).toNat) []) ([(0, ⟨67, 4, [.agg [.slc 1001 0 o1.posts.length, .slc 1002 0 o1.messages.length, .slc 1003 0 o1.calls.length, .d (.int .i64 o1.clock)]]⟩), (1001, ⟨84, 7, (nelB Pst.bs o1.posts).set ((k1).toNat) (.agg [.d (.bool e1.up), .d (.int .i64 e1.stamp.No), .d (.int .i64 e1.stamp.Post), .d (.int .i64 e1.stamp.Turn), .d (.int .i64 e1.value), .d (.int .i64 e1.turns), .ptr 1005 0 0])⟩), (1002, ⟨88, 8, dl (lenc Msg.pd o1.messages)⟩), (1003, ⟨51, 5, dl (lenc Cal.pd o1.calls)⟩), (1005, ⟨103, 9, [.agg [.d (.int .i64 r2.2.turn), .d (.int .i64 r2.2.call), .d (.bool r2.2.write), .d (.bool true), .d (.int .i64 c5), .d (.int .i64 c6), .d (.int .i64 c7), .d (.int .i64 r2.2.value), .slc 1007 0 (((o1.posts.length : Int)).toNat)]]⟩), (1007, ⟨4, 1, dl (lenc PD.bool (List.replicate ((o1.posts.length : Int)).toNat (false : Bool)))⟩)])), [], none⟩) sbB ?_
        refine AOps.sub (shS (S := Pst.bs) ((k1).toNat) 1005 1007 (⟨e1.up, e1.stamp, e1.value, e1.turns, (some (⟨r2.2.turn, r2.2.call, r2.2.write, true, (⟨c5, c6, c7⟩ : Stamp), r2.2.value, (List.replicate ((o1.posts.length : Int)).toNat (false : Bool))⟩ : Work))⟩ : Pst) [(0, ⟨67, 4, [.agg [.slc 1001 0 o1.posts.length, .slc 1002 0 o1.messages.length, .slc 1003 0 o1.calls.length, .d (.int .i64 o1.clock)]]⟩), (1001, ⟨84, 7, nelB Pst.bs (o1.posts.set ((k1).toNat) (⟨e1.up, e1.stamp, e1.value, e1.turns, (some (⟨r2.2.turn, r2.2.call, r2.2.write, true, (⟨c5, c6, c7⟩ : Stamp), r2.2.value, (List.replicate ((o1.posts.length : Int)).toNat (false : Bool))⟩ : Work))⟩ : Pst))⟩), (1002, ⟨88, 8, dl (lenc Msg.pd o1.messages)⟩), (1003, ⟨51, 5, dl (lenc Cal.pd o1.calls)⟩)] f_3 rfl (hl := by (repeat' (first | exact trivial | exact rfl | exact dl_ren _ _ | exact nelB_unfocus (S := Pst.bs) (q0 := 1005) (q1 := 1007) (x := (⟨e1.up, e1.stamp, e1.value, e1.turns, (some (⟨r2.2.turn, r2.2.call, r2.2.write, true, (⟨c5, c6, c7⟩ : Stamp), r2.2.value, (List.replicate ((o1.posts.length : Int)).toNat (false : Bool))⟩ : Work))⟩ : Pst)) f_3 rfl (by decide) (by decide) | (simp only [renL, PV.ren, List.length_append, List.length_set, List.length_replicate, List.length_cons, List.length_nil, Nat.zero_add] <;> exact rfl) | apply And.intro)))) ?_
        obtain ⟨r3, hx_35, h⟩ := bind_some h
        refine clB (S := Pst.bs) [(0, 0), (1001, 1001), (1002, 1002), (1003, 1003)] [1001, 1002, 1003] [] (m_post_Net_all_h_ok (⟨(o1.posts.set ((k1).toNat) (⟨e1.up, e1.stamp, e1.value, e1.turns, (some (⟨r2.2.turn, r2.2.call, r2.2.write, true, (⟨c5, c6, c7⟩ : Stamp), r2.2.value, (List.replicate ((o1.posts.length : Int)).toNat (false : Bool))⟩ : Work))⟩ : Pst)), o1.messages, o1.calls, o1.clock⟩ : Net) (⟨3, m1.To, 0, r2.2.turn, (⟨c5, c6, c7⟩ : Stamp), r2.2.value⟩ : Msg) _ hx_35) ?_
        refine AOps.nil ?_
        cases h; exact rtO
end Go.Pv.Try

namespace Go.Pv.Try
open Go.Proofs Go.Pv
set_option maxHeartbeats 4000000 in
theorem m_post_Net_take_h_ok (o1 : Net) (k1 : Int) (m1 : Msg) (r : Net) (h : m_post_Net_take_h o1 k1 m1 = some r) : ObjFn Try.prog G 54 [.ptr 0 0 0, .ptr 1001 ((k1).toNat) 0, .d (.agg [(.int .i64 m1.Kind), (.int .i64 m1.From), (.int .i64 m1.To), (.int .i64 m1.Turn), (.int .i64 m1.Stamp.No), (.int .i64 m1.Stamp.Post), (.int .i64 m1.Stamp.Turn), (.int .i64 m1.Value)])] (dynBH (blks Pst.bs o1.posts) ([(0, ⟨67, 4, [.agg [.slc 1001 0 o1.posts.length, .slc 1002 0 o1.messages.length, .slc 1003 0 o1.calls.length, .d (.int .i64 o1.clock)]]⟩), (1001, ⟨84, 7, nelB Pst.bs o1.posts⟩), (1002, ⟨88, 8, dl (lenc Msg.pd o1.messages)⟩), (1003, ⟨51, 5, dl (lenc Cal.pd o1.calls)⟩)])) (.tuple []) (dynBH (blks Pst.bs r.posts) ([(0, ⟨67, 4, [.agg [.slc 1001 0 r.posts.length, .slc 1002 0 r.messages.length, .slc 1003 0 r.calls.length, .d (.int .i64 r.clock)]]⟩), (1001, ⟨84, 7, nelB Pst.bs r.posts⟩), (1002, ⟨88, 8, dl (lenc Msg.pd r.messages)⟩), (1003, ⟨51, 5, dl (lenc Cal.pd r.calls)⟩)])) := by
 unfold m_post_Net_take_h at h
 refine ObjFn.pfS Try.func54 Try.ntmps54 ?_
 refine sg fun K k => ?_
 refine oo ?_
 refine AOps.nil (k _ ?_)
 refine sg fun K k => ?_
 iterate 2 refine oo ?_
 refine AOps.nil (k _ ?_)
 refine AWp.block ?_
 refine sg fun K k => ?_
 iterate 2 refine oo ?_
 refine AOps.nil (k _ ?_)
 refine cd h (fun h => ?_) (fun h => ?_)
 ·refine AWp.draw mo [] trivial ?_
  obtain ⟨e1, ⟨f_2, f_3, f_4, f_5⟩, h⟩ := idx_bind h
  iterate 10 refine dd ?_
  refine dd ?_ (by intro K k; simp (disch := omega) only [go_sem, nelB_at (S := Pst.bs) f_4, ↓reduceIte]; exact k)
  iterate 3 refine dd ?_
  refine dd ?_ (by intro K k; simp (disch := omega) only [go_sem, nelB_at (S := Pst.bs) f_4, ↓reduceIte]; exact k)
  refine dd ?_
  refine DOps.stop (by kernel_rfl) ?_
  refine AOps.sub (τ := ⟨[(12, .ptr 0 0 0), (27, .d (.agg [(.int .i64 2), (.int .i64 m1.To), (.int .i64 m1.From), (.int .i64 m1.Turn), (.int .i64 e1.stamp.No), (.int .i64 e1.stamp.Post), (.int .i64 e1.stamp.Turn), (.int .i64 e1.value)]))], (dynBH (blks Pst.bs o1.posts) ([(0, ⟨67, 4, [.agg [.slc 1001 0 o1.posts.length, .slc 1002 0 o1.messages.length, .slc 1003 0 o1.calls.length, .d (.int .i64 o1.clock)]]⟩), (1001, ⟨84, 7, nelB Pst.bs o1.posts⟩), (1002, ⟨88, 8, dl (lenc Msg.pd o1.messages)⟩), (1003, ⟨51, 5, dl (lenc Cal.pd o1.calls)⟩)])), [], none⟩) sbB ?_
  obtain ⟨r1, hx_6, h⟩ := bind_some h
  refine clB (S := Pst.bs) [(0, 0), (1001, 1001), (1002, 1002), (1003, 1003)] [1001, 1002, 1003] [] (m_post_Net_send_h_ok o1 (⟨2, m1.To, m1.From, m1.Turn, e1.stamp, e1.value⟩ : Msg) _ hx_6) ?_
  refine AOps.nil ?_
  cases h; exact ⟨_, Sub.refl, rtO⟩
 ·refine sg fun K k => ?_
  iterate 2 refine oo ?_
  refine AOps.nil (k _ ?_)
  refine cd h (fun h => ?_) (fun h => ?_)
  ·refine AWp.reg ?_
   iterate 3 refine oo ?_
   refine AOps.sub (τ := ⟨[(31, .ptr 0 0 0), (32, .ptr 1001 ((k1).toNat) 0), (33, .d (.agg [(.int .i64 m1.Kind), (.int .i64 m1.From), (.int .i64 m1.To), (.int .i64 m1.Turn), (.int .i64 m1.Stamp.No), (.int .i64 m1.Stamp.Post), (.int .i64 m1.Stamp.Turn), (.int .i64 m1.Value)]))], (dynBH (blks Pst.bs o1.posts) ([(0, ⟨67, 4, [.agg [.slc 1001 0 o1.posts.length, .slc 1002 0 o1.messages.length, .slc 1003 0 o1.calls.length, .d (.int .i64 o1.clock)]]⟩), (1001, ⟨84, 7, nelB Pst.bs o1.posts⟩), (1002, ⟨88, 8, dl (lenc Msg.pd o1.messages)⟩), (1003, ⟨51, 5, dl (lenc Cal.pd o1.calls)⟩)])), [], none⟩) sbB ?_
   obtain ⟨r2, hx_8, h⟩ := bind_some h
   refine clB (S := Pst.bs) [(0, 0), (1001, 1001), (1002, 1002), (1003, 1003)] [1001, 1002, 1003] [32] (m_post_Net_told_h_ok o1 k1 m1 _ hx_8) ?_
   refine AOps.nil ?_
   cases h; exact ⟨_, Sub.refl, rtO⟩
  ·refine sg fun K k => ?_
   iterate 2 refine oo ?_
   refine AOps.nil (k _ ?_)
   refine cd h (fun h => ?_) (fun h => ?_)
   ·refine jn (α := (List Pst)) [0, 5] [1002, 1003, 1004] (fun i t => t) (fun i t => dynBH (blks Pst.bs i) ((0, ⟨67, 4, [.agg [.slc 1001 0 i.length, .slc 1002 0 o1.messages.length, .slc 1003 0 o1.calls.length, .d (.int .i64 o1.clock)]]⟩) :: (1001, ⟨84, 7, nelB Pst.bs i⟩) :: t)) h ?_ ?_
    ·intro _ hj_11
     refine sd mo fun K k => ?_
     obtain ⟨e2, ⟨f_12, f_13, f_14, f_15⟩, hj_11⟩ := idx_bind hj_11
     iterate 5 refine dd ?_
     refine dd ?_ (by intro K k; simp (disch := omega) only [go_sem, nelB_at (S := Pst.bs) f_14, ↓reduceIte]; exact k)
     obtain ⟨r3, hx_16, hj_11⟩ := bind_some hj_11
     refine dcl (m_post_greater_ok m1.Stamp e2.stamp _ hx_16) ?_
     refine DOps.nil (by kernel_rfl) (k _ ?_)
     refine cd hj_11 (fun hj_11 => ?_) (fun hj_11 => ?_)
     ·obtain ⟨e3, ⟨f_18, f_19, f_20, f_21⟩, hj_11⟩ := idx_bind hj_11
      rcases optB_case hj_11 with ⟨hw_22, hj_11⟩ | ⟨w1, hw_22, hj_11⟩
      ·have hF_23 := fun p => nelB_hole (S := Pst.bs) f_20 p
       have hwS_24 : Pst.bs.wk e3 = none := hw_22
       refine AWp.sub (opN (S := Pst.bs) ((k1).toNat) f_20 hwS_24 (hl := by rw [nelB_open f_20 hwS_24, Pst_F])) ?_
       refine AWp.draw mo [] trivial ?_
       iterate 8 refine dd ?_
       refine dd ?_ (by intro K k; simp (disch := omega) only [go_sem, hF_23, List.set_set, ↓reduceIte]; exact k)
       iterate 2 refine dd ?_
       refine dd ?_ (by intro K k; simp (disch := omega) only [go_sem, hF_23, List.set_set, ↓reduceIte]; exact k)
       refine DOps.nil (by kernel_rfl) ?_
       cases hj_11; exact (Sub.trans (sbB (τ := ⟨[(0, .ptr 0 0 0), (1, .ptr 1001 ((k1).toNat) 0), (2, .d (.agg [(.int .i64 m1.Kind), (.int .i64 m1.From), (.int .i64 m1.To), (.int .i64 m1.Turn), (.int .i64 m1.Stamp.No), (.int .i64 m1.Stamp.Post), (.int .i64 m1.Stamp.Turn), (.int .i64 m1.Value)])), (5, .ptr 1004 0 0), (8, .ptr 1004 0 0), (9, .d (.int .i64 m1.Kind)), (10, .d (.bool (decide (m1.Kind = 1)))), (11, .d (.bool (decide (m1.Kind = 1)))), (29, .d (.bool (decide (m1.Kind = 2)))), (30, .d (.bool (decide (m1.Kind = 2)))), (35, .d (.bool (decide (m1.Kind = 3)))), (36, .d (.bool (decide (m1.Kind = 3)))), (37, .ptr 1004 0 4), (38, .d (.agg [(.int .i64 m1.Stamp.No), (.int .i64 m1.Stamp.Post), (.int .i64 m1.Stamp.Turn)])), (39, .ptr 1001 ((k1).toNat) 0), (40, .ptr 1001 ((k1).toNat) 0), (41, .ptr 1001 ((k1).toNat) 1), (42, .d (.agg [(.int .i64 e2.stamp.No), (.int .i64 e2.stamp.Post), (.int .i64 e2.stamp.Turn)])), (43, .d (.bool r3)), (44, .ptr 1001 ((k1).toNat) 0), (45, .ptr 1001 ((k1).toNat) 0), (46, .ptr 1004 0 4), (47, .d (.agg [(.int .i64 m1.Stamp.No), (.int .i64 m1.Stamp.Post), (.int .i64 m1.Stamp.Turn)])), (48, .ptr 1004 0 7), (49, .d (.int .i64 m1.Value)), (50, .ptr 1001 ((k1).toNat) 0), (51, .ptr 1001 ((k1).toNat) 1), (52, .ptr 1001 ((k1).toNat) 0), (53, .ptr 1001 ((k1).toNat) 4)], (dynBH ((blks Pst.bs o1.posts).set ((k1).toNat) []) ([(0, ⟨67, 4, [.agg [.slc 1001 0 o1.posts.length, .slc 1002 0 o1.messages.length, .slc 1003 0 o1.calls.length, .d (.int .i64 o1.clock)]]⟩), (1001, ⟨84, 7, (nelB Pst.bs o1.posts).set ((k1).toNat) (.d (.agg [(.bool e3.up), (.int .i64 m1.Stamp.No), (.int .i64 m1.Stamp.Post), (.int .i64 m1.Stamp.Turn), (.int .i64 m1.Value), (.int .i64 e3.turns), .nilptr]))⟩), (1002, ⟨88, 8, dl (lenc Msg.pd o1.messages)⟩), (1003, ⟨51, 5, dl (lenc Cal.pd o1.calls)⟩), (1004, ⟨88, 8, [.d (.agg [(.int .i64 m1.Kind), (.int .i64 m1.From), (.int .i64 m1.To), (.int .i64 m1.Turn), (.int .i64 m1.Stamp.No), (.int .i64 m1.Stamp.Post), (.int .i64 m1.Stamp.Turn), (.int .i64 m1.Value)])]⟩)])), [], none⟩)) (Sub.trans (shND (S := Pst.bs) 1001 ((k1).toNat) (L := o1.posts) (⟨e3.up, m1.Stamp, m1.Value, e3.turns, none⟩ : Pst) [(0, ⟨67, 4, [.agg [.slc 1001 0 o1.posts.length, .slc 1002 0 o1.messages.length, .slc 1003 0 o1.calls.length, .d (.int .i64 o1.clock)]]⟩), (1001, ⟨84, 7, nelB Pst.bs (o1.posts.set ((k1).toNat) (⟨e3.up, m1.Stamp, m1.Value, e3.turns, none⟩ : Pst))⟩), (1002, ⟨88, 8, dl (lenc Msg.pd o1.messages)⟩), (1003, ⟨51, 5, dl (lenc Cal.pd o1.calls)⟩), (1004, ⟨88, 8, [.d (.agg [(.int .i64 m1.Kind), (.int .i64 m1.From), (.int .i64 m1.To), (.int .i64 m1.Turn), (.int .i64 m1.Stamp.No), (.int .i64 m1.Stamp.Post), (.int .i64 m1.Stamp.Turn), (.int .i64 m1.Value)])]⟩)] f_20) sbB))
      ·have hF_25 := fun p => nelB_hole (S := Pst.bs) f_20 p
       have hwS_26 : Pst.bs.wk e3 = some w1 := hw_22
       refine AWp.sub (opS (S := Pst.bs) ((k1).toNat) 1005 1006 (⟨103, 9, [.agg [.d (.int .i64 w1.turn), .d (.int .i64 w1.call), .d (.bool w1.write), .d (.bool w1.puts), .d (.int .i64 w1.stamp.No), .d (.int .i64 w1.stamp.Post), .d (.int .i64 w1.stamp.Turn), .d (.int .i64 w1.value), .slc 1006 0 w1.answered.length]]⟩ : Row) (⟨4, 1, dl (lenc PD.bool w1.answered)⟩ : Row) f_20 hwS_26 (hl := by (simp only [renHeap, Row.ren, renL, PV.ren, dl_ren, focB_low, nelB_focus f_20 hwS_26, Nat.reduceLT, Pst_F]; rfl))) ?_
       refine AWp.draw mo [] trivial ?_
       iterate 8 refine dd ?_
       refine dd ?_ (by intro K k; simp (disch := omega) only [go_sem, hF_25, List.set_set, ↓reduceIte]; exact k)
       iterate 2 refine dd ?_
       refine dd ?_ (by intro K k; simp (disch := omega) only [go_sem, hF_25, List.set_set, ↓reduceIte]; exact k)
       refine DOps.nil (by kernel_rfl) ?_
       cases hj_11; exact (Sub.trans (shS (S := Pst.bs) ((k1).toNat) 1005 1006 (⟨e3.up, m1.Stamp, m1.Value, e3.turns, (some w1)⟩ : Pst) [(0, ⟨67, 4, [.agg [.slc 1001 0 o1.posts.length, .slc 1002 0 o1.messages.length, .slc 1003 0 o1.calls.length, .d (.int .i64 o1.clock)]]⟩), (1001, ⟨84, 7, nelB Pst.bs (o1.posts.set ((k1).toNat) (⟨e3.up, m1.Stamp, m1.Value, e3.turns, (some w1)⟩ : Pst))⟩), (1002, ⟨88, 8, dl (lenc Msg.pd o1.messages)⟩), (1003, ⟨51, 5, dl (lenc Cal.pd o1.calls)⟩), (1004, ⟨88, 8, [.d (.agg [(.int .i64 m1.Kind), (.int .i64 m1.From), (.int .i64 m1.To), (.int .i64 m1.Turn), (.int .i64 m1.Stamp.No), (.int .i64 m1.Stamp.Post), (.int .i64 m1.Stamp.Turn), (.int .i64 m1.Value)])]⟩)] f_20 rfl (hl := by (repeat' (first | exact trivial | exact rfl | exact dl_ren _ _ | exact nelB_unfocus (S := Pst.bs) (q0 := 1005) (q1 := 1006) (x := (⟨e3.up, m1.Stamp, m1.Value, e3.turns, (some w1)⟩ : Pst)) f_20 rfl (by decide) (by decide) | (simp only [renL, PV.ren, List.length_append, List.length_set, List.length_replicate, List.length_cons, List.length_nil, Nat.zero_add] <;> exact rfl) | apply And.intro)))) sbB)
     ·refine AWp.skip ?_
      cases hj_11; exact sbB
    ·rintro L1 h; dsimp only at h ⊢
     refine AWp.reg ?_
     iterate 8 refine oo ?_
     refine AOps.sub (τ := ⟨[(54, .ptr 0 0 0), (61, .d (.agg [(.int .i64 4), (.int .i64 m1.To), (.int .i64 m1.From), (.int .i64 m1.Turn), (.int .i64 0), (.int .i64 0), (.int .i64 0), (.int .i64 0)]))], (dynBH (blks Pst.bs L1) ([(0, ⟨67, 4, [.agg [.slc 1001 0 L1.length, .slc 1002 0 o1.messages.length, .slc 1003 0 o1.calls.length, .d (.int .i64 o1.clock)]]⟩), (1001, ⟨84, 7, nelB Pst.bs L1⟩), (1002, ⟨88, 8, dl (lenc Msg.pd o1.messages)⟩), (1003, ⟨51, 5, dl (lenc Cal.pd o1.calls)⟩)])), [], none⟩) sbB ?_
     obtain ⟨r4, hx_27, h⟩ := bind_some h
     refine clB (S := Pst.bs) [(0, 0), (1001, 1001), (1002, 1002), (1003, 1003)] [1001, 1002, 1003] [] (m_post_Net_send_h_ok (⟨L1, o1.messages, o1.calls, o1.clock⟩ : Net) (⟨4, m1.To, m1.From, m1.Turn, (⟨0, 0, 0⟩ : Stamp), 0⟩ : Msg) _ hx_27) ?_
     refine AOps.nil ?_
     cases h; exact ⟨_, Sub.refl, rtO⟩
   ·refine sg fun K k => ?_
    iterate 2 refine oo ?_
    refine AOps.nil (k _ ?_)
    refine cd h (fun h => ?_) (fun h => ?_)
    ·obtain ⟨e4, ⟨f_29, f_30, f_31, f_32⟩, h⟩ := idx_bind h
     rcases optB_case h with ⟨hw_33, h⟩ | ⟨w2, hw_33, h⟩
     ·have hF_34 := fun p => nelB_hole (S := Pst.bs) f_31 p
      have hwS_35 : Pst.bs.wk e4 = none := hw_33
      refine AWp.sub (opN (S := Pst.bs) ((k1).toNat) f_31 hwS_35 (hl := by rw [nelB_open f_31 hwS_35, Pst_F])) ?_
      refine sg fun K k => ?_
      iterate 3 refine oo ?_
      refine oo ?_ (by intro K k; simp (disch := omega) only [go_sem, hF_34, List.set_set, ↓reduceIte]; exact k)
      refine oo ?_
      refine AOps.nil (k _ ?_)
      refine AWp.seq fun _ K_36 => ?_
      refine sd mo fun K k => ?_
      iterate 28 refine dd ?_
      refine DOps.nil (by kernel_rfl) (k _ ?_)
      refine cdt ?_
      refine AWp.sub (τ := ⟨[(0, .ptr 0 0 0), (1, .ptr 1001 ((k1).toNat) 0), (2, .d (.agg [(.int .i64 m1.Kind), (.int .i64 m1.From), (.int .i64 m1.To), (.int .i64 m1.Turn), (.int .i64 m1.Stamp.No), (.int .i64 m1.Stamp.Post), (.int .i64 m1.Stamp.Turn), (.int .i64 m1.Value)])), (5, .ptr 1004 0 0), (6, .d .nilptr), (8, .ptr 1004 0 0), (9, .d (.int .i64 m1.Kind)), (10, .d (.bool (decide (m1.Kind = 1)))), (11, .d (.bool (decide (m1.Kind = 1)))), (29, .d (.bool (decide (m1.Kind = 2)))), (30, .d (.bool (decide (m1.Kind = 2)))), (35, .d (.bool (decide (m1.Kind = 3)))), (36, .d (.bool (decide (m1.Kind = 3)))), (63, .d (.bool (decide (m1.Kind = 4)))), (64, .d (.bool (decide (m1.Kind = 4)))), (65, .ptr 1001 ((k1).toNat) 0), (66, .ptr 1001 ((k1).toNat) 0), (67, .ptr 1001 ((k1).toNat) 6), (68, .d .nilptr), (69, .d .nilptr), (70, .d (.bool true)), (71, .d (.bool true)), (72, .tuple []), (73, .tuple []), (74, .tuple []), (75, .tuple []), (76, .tuple []), (77, .tuple []), (78, .tuple []), (79, .d (.bool true)), (80, .d (.bool true)), (81, .tuple []), (82, .tuple []), (83, .tuple []), (84, .tuple []), (85, .tuple []), (86, .d (.bool true)), (87, .d (.bool true)), (88, .tuple []), (89, .tuple []), (90, .tuple []), (91, .tuple []), (92, .tuple []), (93, .tuple []), (94, .tuple []), (95, .tuple []), (96, .d (.bool true))], (dynBH ((blks Pst.bs o1.posts).set ((k1).toNat) []) ([(0, ⟨67, 4, [.agg [.slc 1001 0 o1.posts.length, .slc 1002 0 o1.messages.length, .slc 1003 0 o1.calls.length, .d (.int .i64 o1.clock)]]⟩), (1001, ⟨84, 7, (nelB Pst.bs o1.posts).set ((k1).toNat) (.agg [.d (.bool e4.up), .d (.int .i64 e4.stamp.No), .d (.int .i64 e4.stamp.Post), .d (.int .i64 e4.stamp.Turn), .d (.int .i64 e4.value), .d (.int .i64 e4.turns), .d .nilptr])⟩), (1002, ⟨88, 8, dl (lenc Msg.pd o1.messages)⟩), (1003, ⟨51, 5, dl (lenc Cal.pd o1.calls)⟩), (1004, ⟨88, 8, [.d (.agg [(.int .i64 m1.Kind), (.int .i64 m1.From), (.int .i64 m1.To), (.int .i64 m1.Turn), (.int .i64 m1.Stamp.No), (.int .i64 m1.Stamp.Post), (.int .i64 m1.Stamp.Turn), (.int .i64 m1.Value)])]⟩)])), [], none⟩) sbB ?_
      refine AWp.sub (shN (S := Pst.bs) ((k1).toNat) (L := o1.posts) (⟨e4.up, e4.stamp, e4.value, e4.turns, none⟩ : Pst) [(0, ⟨67, 4, [.agg [.slc 1001 0 o1.posts.length, .slc 1002 0 o1.messages.length, .slc 1003 0 o1.calls.length, .d (.int .i64 o1.clock)]]⟩), (1001, ⟨84, 7, nelB Pst.bs (o1.posts.set ((k1).toNat) (⟨e4.up, e4.stamp, e4.value, e4.turns, none⟩ : Pst))⟩), (1002, ⟨88, 8, dl (lenc Msg.pd o1.messages)⟩), (1003, ⟨51, 5, dl (lenc Cal.pd o1.calls)⟩), (1004, ⟨88, 8, [.d (.agg [(.int .i64 m1.Kind), (.int .i64 m1.From), (.int .i64 m1.To), (.int .i64 m1.Turn), (.int .i64 m1.Stamp.No), (.int .i64 m1.Stamp.Post), (.int .i64 m1.Stamp.Turn), (.int .i64 m1.Value)])]⟩)] rfl (hl := by rw [← nelB_set (S := Pst.bs) (L := o1.posts) (i := ((k1).toNat)) (x := (⟨e4.up, e4.stamp, e4.value, e4.turns, none⟩ : Pst)) _ rfl]; rfl)) ?_
      refine AWp.ret ?_
      cases h; exact ⟨_, Sub.refl, rtO⟩
     ·have hF_37 := fun p => nelB_hole (S := Pst.bs) f_31 p
      have hwS_38 : Pst.bs.wk e4 = some w2 := hw_33
      refine AWp.sub (opS (S := Pst.bs) ((k1).toNat) 1005 1006 (⟨103, 9, [.agg [.d (.int .i64 w2.turn), .d (.int .i64 w2.call), .d (.bool w2.write), .d (.bool w2.puts), .d (.int .i64 w2.stamp.No), .d (.int .i64 w2.stamp.Post), .d (.int .i64 w2.stamp.Turn), .d (.int .i64 w2.value), .slc 1006 0 w2.answered.length]]⟩ : Row) (⟨4, 1, dl (lenc PD.bool w2.answered)⟩ : Row) f_31 hwS_38 (hl := by (simp only [renHeap, Row.ren, renL, PV.ren, dl_ren, focB_low, nelB_focus f_31 hwS_38, Nat.reduceLT, Pst_F]; rfl))) ?_
      refine sg fun K k => ?_
      iterate 3 refine oo ?_
      refine oo ?_ (by intro K k; simp (disch := omega) only [go_sem, hF_37, List.set_set, ↓reduceIte]; exact k)
      refine oo ?_
      refine AOps.nil (k _ ?_)
      refine AWp.seq fun _ K_39 => ?_
      refine sd mo fun K k => ?_
      iterate 12 refine dd ?_
      rcases bt (decide (¬w2.turn = m1.Turn)) with hg_40 | hg_40
      ·rw [hg_40]
       replace h := condT hg_40 h
       iterate 16 refine dd ?_
       refine DOps.nil (by kernel_rfl) (k _ ?_)
       refine cdt ?_
       refine AWp.sub (drp [(0, .ptr 0 0 0), (1, .ptr 1001 ((k1).toNat) 0), (2, .d (.agg [(.int .i64 m1.Kind), (.int .i64 m1.From), (.int .i64 m1.To), (.int .i64 m1.Turn), (.int .i64 m1.Stamp.No), (.int .i64 m1.Stamp.Post), (.int .i64 m1.Stamp.Turn), (.int .i64 m1.Value)])), (5, .ptr 1004 0 0), (8, .ptr 1004 0 0), (9, .d (.int .i64 m1.Kind)), (10, .d (.bool (decide (m1.Kind = 1)))), (11, .d (.bool (decide (m1.Kind = 1)))), (29, .d (.bool (decide (m1.Kind = 2)))), (30, .d (.bool (decide (m1.Kind = 2)))), (35, .d (.bool (decide (m1.Kind = 3)))), (36, .d (.bool (decide (m1.Kind = 3)))), (63, .d (.bool (decide (m1.Kind = 4)))), (64, .d (.bool (decide (m1.Kind = 4)))), (65, .ptr 1001 ((k1).toNat) 0), (66, .ptr 1001 ((k1).toNat) 0), (67, .ptr 1001 ((k1).toNat) 6), (70, .d (.bool false)), (71, .d (.bool false)), (75, .d (.int .i64 w2.turn)), (76, .ptr 1004 0 3), (77, .d (.int .i64 m1.Turn)), (78, .d (.bool true)), (79, .d (.bool true)), (80, .d (.bool true)), (81, .tuple []), (82, .tuple []), (83, .tuple []), (84, .tuple []), (85, .tuple []), (86, .d (.bool true)), (87, .d (.bool true)), (88, .tuple []), (89, .tuple []), (90, .tuple []), (91, .tuple []), (92, .tuple []), (93, .tuple []), (94, .tuple []), (95, .tuple []), (96, .d (.bool true))]) ?_
       refine AWp.sub (shS (S := Pst.bs) ((k1).toNat) 1005 1006 (⟨e4.up, e4.stamp, e4.value, e4.turns, (some w2)⟩ : Pst) [(0, ⟨67, 4, [.agg [.slc 1001 0 o1.posts.length, .slc 1002 0 o1.messages.length, .slc 1003 0 o1.calls.length, .d (.int .i64 o1.clock)]]⟩), (1001, ⟨84, 7, nelB Pst.bs (o1.posts.set ((k1).toNat) (⟨e4.up, e4.stamp, e4.value, e4.turns, (some w2)⟩ : Pst))⟩), (1002, ⟨88, 8, dl (lenc Msg.pd o1.messages)⟩), (1003, ⟨51, 5, dl (lenc Cal.pd o1.calls)⟩), (1004, ⟨88, 8, [.d (.agg [(.int .i64 m1.Kind), (.int .i64 m1.From), (.int .i64 m1.To), (.int .i64 m1.Turn), (.int .i64 m1.Stamp.No), (.int .i64 m1.Stamp.Post), (.int .i64 m1.Stamp.Turn), (.int .i64 m1.Value)])]⟩)] f_31 rfl (hl := by (repeat' (first | exact trivial | exact rfl | exact dl_ren _ _ | exact nelB_unfocus (S := Pst.bs) (q0 := 1005) (q1 := 1006) (x := (⟨e4.up, e4.stamp, e4.value, e4.turns, (some w2)⟩ : Pst)) f_31 rfl (by decide) (by decide) | (simp only [renL, PV.ren, List.length_append, List.length_set, List.length_replicate, List.length_cons, List.length_nil, Nat.zero_add] <;> exact rfl) | apply And.intro)))) ?_
       refine AWp.ret ?_
       cases h; exact ⟨_, Sub.refl, rtO⟩
      ·rw [hg_40]
       replace h := condF hg_40 h
       iterate 7 refine dd ?_
       rcases bt (!w2.puts) with hg_41 | hg_41
       ·rw [hg_41]
        replace h := condT hg_41 h
        iterate 9 refine dd ?_
        refine DOps.nil (by kernel_rfl) (k _ ?_)
        refine cdt ?_
        refine AWp.sub (drp [(0, .ptr 0 0 0), (1, .ptr 1001 ((k1).toNat) 0), (2, .d (.agg [(.int .i64 m1.Kind), (.int .i64 m1.From), (.int .i64 m1.To), (.int .i64 m1.Turn), (.int .i64 m1.Stamp.No), (.int .i64 m1.Stamp.Post), (.int .i64 m1.Stamp.Turn), (.int .i64 m1.Value)])), (5, .ptr 1004 0 0), (8, .ptr 1004 0 0), (9, .d (.int .i64 m1.Kind)), (10, .d (.bool (decide (m1.Kind = 1)))), (11, .d (.bool (decide (m1.Kind = 1)))), (29, .d (.bool (decide (m1.Kind = 2)))), (30, .d (.bool (decide (m1.Kind = 2)))), (35, .d (.bool (decide (m1.Kind = 3)))), (36, .d (.bool (decide (m1.Kind = 3)))), (63, .d (.bool (decide (m1.Kind = 4)))), (64, .d (.bool (decide (m1.Kind = 4)))), (65, .ptr 1001 ((k1).toNat) 0), (66, .ptr 1001 ((k1).toNat) 0), (67, .ptr 1001 ((k1).toNat) 6), (70, .d (.bool false)), (71, .d (.bool false)), (75, .d (.int .i64 w2.turn)), (76, .ptr 1004 0 3), (77, .d (.int .i64 m1.Turn)), (78, .d (.bool false)), (79, .d (.bool false)), (80, .d (.bool false)), (84, .d (.bool w2.puts)), (85, .d (.bool true)), (86, .d (.bool true)), (87, .d (.bool true)), (88, .tuple []), (89, .tuple []), (90, .tuple []), (91, .tuple []), (92, .tuple []), (93, .tuple []), (94, .tuple []), (95, .tuple []), (96, .d (.bool true))]) ?_
        refine AWp.sub (shS (S := Pst.bs) ((k1).toNat) 1005 1006 (⟨e4.up, e4.stamp, e4.value, e4.turns, (some w2)⟩ : Pst) [(0, ⟨67, 4, [.agg [.slc 1001 0 o1.posts.length, .slc 1002 0 o1.messages.length, .slc 1003 0 o1.calls.length, .d (.int .i64 o1.clock)]]⟩), (1001, ⟨84, 7, nelB Pst.bs (o1.posts.set ((k1).toNat) (⟨e4.up, e4.stamp, e4.value, e4.turns, (some w2)⟩ : Pst))⟩), (1002, ⟨88, 8, dl (lenc Msg.pd o1.messages)⟩), (1003, ⟨51, 5, dl (lenc Cal.pd o1.calls)⟩), (1004, ⟨88, 8, [.d (.agg [(.int .i64 m1.Kind), (.int .i64 m1.From), (.int .i64 m1.To), (.int .i64 m1.Turn), (.int .i64 m1.Stamp.No), (.int .i64 m1.Stamp.Post), (.int .i64 m1.Stamp.Turn), (.int .i64 m1.Value)])]⟩)] f_31 rfl (hl := by (repeat' (first | exact trivial | exact rfl | exact dl_ren _ _ | exact nelB_unfocus (S := Pst.bs) (q0 := 1005) (q1 := 1006) (x := (⟨e4.up, e4.stamp, e4.value, e4.turns, (some w2)⟩ : Pst)) f_31 rfl (by decide) (by decide) | (simp only [renL, PV.ren, List.length_append, List.length_set, List.length_replicate, List.length_cons, List.length_nil, Nat.zero_add] <;> exact rfl) | apply And.intro)))) ?_
        refine AWp.ret ?_
        cases h; exact ⟨_, Sub.refl, rtO⟩
       ·rw [hg_41]
        replace h := condF hg_41 h
        obtain ⟨e5, ⟨f_42, f_43, f_44, f_45⟩, h⟩ := idx_bind h
        iterate 7 refine dd ?_
        refine dd ?_ (by intro K k; simp (disch := omega) only [go_sem, f_44, ↓reduceIte]; exact k)
        refine dd ?_
        refine DOps.nil (by kernel_rfl) (k _ ?_)
        refine cd h (fun h => ?_) (fun h => ?_)
        ·refine AWp.sub (drp [(0, .ptr 0 0 0), (1, .ptr 1001 ((k1).toNat) 0), (2, .d (.agg [(.int .i64 m1.Kind), (.int .i64 m1.From), (.int .i64 m1.To), (.int .i64 m1.Turn), (.int .i64 m1.Stamp.No), (.int .i64 m1.Stamp.Post), (.int .i64 m1.Stamp.Turn), (.int .i64 m1.Value)])), (5, .ptr 1004 0 0), (8, .ptr 1004 0 0), (9, .d (.int .i64 m1.Kind)), (10, .d (.bool (decide (m1.Kind = 1)))), (11, .d (.bool (decide (m1.Kind = 1)))), (29, .d (.bool (decide (m1.Kind = 2)))), (30, .d (.bool (decide (m1.Kind = 2)))), (35, .d (.bool (decide (m1.Kind = 3)))), (36, .d (.bool (decide (m1.Kind = 3)))), (63, .d (.bool (decide (m1.Kind = 4)))), (64, .d (.bool (decide (m1.Kind = 4)))), (65, .ptr 1001 ((k1).toNat) 0), (66, .ptr 1001 ((k1).toNat) 0), (67, .ptr 1001 ((k1).toNat) 6), (70, .d (.bool false)), (71, .d (.bool false)), (75, .d (.int .i64 w2.turn)), (76, .ptr 1004 0 3), (77, .d (.int .i64 m1.Turn)), (78, .d (.bool false)), (79, .d (.bool false)), (80, .d (.bool false)), (84, .d (.bool w2.puts)), (85, .d (.bool false)), (86, .d (.bool false)), (87, .d (.bool false)), (92, .ptr 1004 0 1), (93, .d (.int .i64 m1.From)), (95, .d (.bool e5)), (96, .d (.bool e5))]) ?_
         refine AWp.sub (shS (S := Pst.bs) ((k1).toNat) 1005 1006 (⟨e4.up, e4.stamp, e4.value, e4.turns, (some w2)⟩ : Pst) [(0, ⟨67, 4, [.agg [.slc 1001 0 o1.posts.length, .slc 1002 0 o1.messages.length, .slc 1003 0 o1.calls.length, .d (.int .i64 o1.clock)]]⟩), (1001, ⟨84, 7, nelB Pst.bs (o1.posts.set ((k1).toNat) (⟨e4.up, e4.stamp, e4.value, e4.turns, (some w2)⟩ : Pst))⟩), (1002, ⟨88, 8, dl (lenc Msg.pd o1.messages)⟩), (1003, ⟨51, 5, dl (lenc Cal.pd o1.calls)⟩), (1004, ⟨88, 8, [.d (.agg [(.int .i64 m1.Kind), (.int .i64 m1.From), (.int .i64 m1.To), (.int .i64 m1.Turn), (.int .i64 m1.Stamp.No), (.int .i64 m1.Stamp.Post), (.int .i64 m1.Stamp.Turn), (.int .i64 m1.Value)])]⟩)] f_31 rfl (hl := by (repeat' (first | exact trivial | exact rfl | exact dl_ren _ _ | exact nelB_unfocus (S := Pst.bs) (q0 := 1005) (q1 := 1006) (x := (⟨e4.up, e4.stamp, e4.value, e4.turns, (some w2)⟩ : Pst)) f_31 rfl (by decide) (by decide) | (simp only [renL, PV.ren, List.length_append, List.length_set, List.length_replicate, List.length_cons, List.length_nil, Nat.zero_add] <;> exact rfl) | apply And.intro)))) ?_
         refine AWp.ret ?_
         cases h; exact ⟨_, Sub.refl, rtO⟩
        ·refine AWp.skip ?_
         refine K_39 _ ?_
         refine sd mo fun K k => ?_
         obtain ⟨e6, ⟨f_47, f_48, f_49, f_50⟩, h⟩ := idx_bind h
         iterate 7 refine dd ?_
         refine dd ?_ (by intro K k; simp (disch := omega) only [go_sem, f_49, ↓reduceIte]; exact k)
         refine DOps.nil (by kernel_rfl) (k _ ?_)
         refine sg fun K k => ?_
         refine oo ?_
         obtain ⟨r5, hx_51, h⟩ := bind_some h
         refine clW [(0, 1005), (1001, 1006)] [1006] [91, 94, 100, 103] (m_post_work_majority_h_ok (⟨w2.turn, w2.call, w2.write, w2.puts, w2.stamp, w2.value, (w2.answered.set (m1.From).toNat true)⟩ : Work) _ hx_51) ?_
         refine AOps.nil (k _ ?_)
         refine cd h (fun h => ?_) (fun h => ?_)
         ·refine sd mo fun K k => ?_
          obtain ⟨e7, ⟨f_53, f_54, f_55, f_56⟩, h⟩ := idx_bind h
          iterate 10 refine dd ?_
          refine DOps.nil (by kernel_rfl) (k _ ?_)
          refine sd mo fun K k => ?_
          iterate 12 refine dd ?_
          refine dd ?_ (by intro K k; simp (disch := omega) only [go_sem, f_55, ↓reduceIte]; exact k)
          obtain ⟨e8, ⟨f_57, f_58, f_59, f_60⟩, h⟩ := idx_bind h
          try simp only [List.length_append, List.length_set, List.length_replicate, List.length_cons, List.length_nil] at f_58 f_60
          iterate 2 refine dd ?_
          refine dd ?_ (by intro K k; simp (disch := omega) only [go_sem, f_59, List.set_set, ↓reduceIte]; exact k)
          refine DOps.nil (by kernel_rfl) (k _ ?_)
          refine AWp.reg ?_
          iterate 3 refine oo ?_
          refine oo ?_ (by intro K k; simp (disch := omega) only [go_sem, hF_37, List.set_set, ↓reduceIte]; exact k)
          refine AOps.nil ?_
          cases h; exact ⟨_, (Sub.trans (sbB (τ := ⟨[(0, .ptr 0 0 0), (1, .ptr 1001 ((k1).toNat) 0), (2, .d (.agg [(.int .i64 m1.Kind), (.int .i64 m1.From), (.int .i64 m1.To), (.int .i64 m1.Turn), (.int .i64 m1.Stamp.No), (.int .i64 m1.Stamp.Post), (.int .i64 m1.Stamp.Turn), (.int .i64 m1.Value)])), (5, .ptr 1004 0 0), (7, .ptr 1003 ((r5.2.call).toNat) 0), (8, .ptr 1004 0 0), (9, .d (.int .i64 m1.Kind)), (10, .d (.bool (decide (m1.Kind = 1)))), (11, .d (.bool (decide (m1.Kind = 1)))), (29, .d (.bool (decide (m1.Kind = 2)))), (30, .d (.bool (decide (m1.Kind = 2)))), (35, .d (.bool (decide (m1.Kind = 3)))), (36, .d (.bool (decide (m1.Kind = 3)))), (63, .d (.bool (decide (m1.Kind = 4)))), (64, .d (.bool (decide (m1.Kind = 4)))), (65, .ptr 1001 ((k1).toNat) 0), (66, .ptr 1001 ((k1).toNat) 0), (67, .ptr 1001 ((k1).toNat) 6), (70, .d (.bool false)), (71, .d (.bool false)), (75, .d (.int .i64 w2.turn)), (76, .ptr 1004 0 3), (77, .d (.int .i64 m1.Turn)), (78, .d (.bool false)), (79, .d (.bool false)), (80, .d (.bool false)), (84, .d (.bool w2.puts)), (85, .d (.bool false)), (86, .d (.bool false)), (87, .d (.bool false)), (92, .ptr 1004 0 1), (93, .d (.int .i64 m1.From)), (95, .d (.bool e5)), (96, .d (.bool e5)), (101, .ptr 1004 0 1), (102, .d (.int .i64 m1.From)), (105, .d (.bool r5.1)), (106, .ptr 0 0 0), (107, .ptr 0 0 0), (108, .ptr 0 0 2), (109, .slc 1003 0 o1.calls.length), (113, .d (.int .i64 r5.2.call)), (114, .ptr 1003 ((r5.2.call).toNat) 0), (115, .ptr 1003 ((r5.2.call).toNat) 0), (116, .ptr 1003 ((r5.2.call).toNat) 0), (120, .d (.int .i64 r5.2.value)), (121, .ptr 0 0 0), (122, .ptr 0 0 0), (123, .ptr 0 0 3), (124, .d (.int .i64 o1.clock)), (125, .ptr 1003 ((r5.2.call).toNat) 0), (126, .ptr 1003 ((r5.2.call).toNat) 2), (127, .ptr 1003 ((r5.2.call).toNat) 0), (128, .ptr 1003 ((r5.2.call).toNat) 4), (129, .ptr 1001 ((k1).toNat) 0), (130, .ptr 1001 ((k1).toNat) 0), (131, .ptr 1001 ((k1).toNat) 6)], (dynBH ((blks Pst.bs o1.posts).set ((k1).toNat) []) ([(0, ⟨67, 4, [.agg [.slc 1001 0 o1.posts.length, .slc 1002 0 o1.messages.length, .slc 1003 0 o1.calls.length, .d (.int .i64 o1.clock)]]⟩), (1001, ⟨84, 7, (nelB Pst.bs o1.posts).set ((k1).toNat) (.d (.agg [(.bool e4.up), (.int .i64 e4.stamp.No), (.int .i64 e4.stamp.Post), (.int .i64 e4.stamp.Turn), (.int .i64 e4.value), (.int .i64 e4.turns), .nilptr]))⟩), (1002, ⟨88, 8, dl (lenc Msg.pd o1.messages)⟩), (1003, ⟨51, 5, dl (lenc Cal.pd (o1.calls.set (r5.2.call).toNat (⟨e8.Post, e8.Write, e8.Value, e8.Start, o1.clock⟩ : Cal)))⟩), (1004, ⟨88, 8, [.d (.agg [(.int .i64 m1.Kind), (.int .i64 m1.From), (.int .i64 m1.To), (.int .i64 m1.Turn), (.int .i64 m1.Stamp.No), (.int .i64 m1.Stamp.Post), (.int .i64 m1.Stamp.Turn), (.int .i64 m1.Value)])]⟩)])), [], none⟩)) (Sub.trans (sbB (τ := ⟨[(0, .ptr 0 0 0), (1, .ptr 1001 ((k1).toNat) 0), (2, .d (.agg [(.int .i64 m1.Kind), (.int .i64 m1.From), (.int .i64 m1.To), (.int .i64 m1.Turn), (.int .i64 m1.Stamp.No), (.int .i64 m1.Stamp.Post), (.int .i64 m1.Stamp.Turn), (.int .i64 m1.Value)])), (5, .ptr 1004 0 0), (7, .ptr 1003 ((r5.2.call).toNat) 0), (8, .ptr 1004 0 0), (9, .d (.int .i64 m1.Kind)), (10, .d (.bool (decide (m1.Kind = 1)))), (11, .d (.bool (decide (m1.Kind = 1)))), (29, .d (.bool (decide (m1.Kind = 2)))), (30, .d (.bool (decide (m1.Kind = 2)))), (35, .d (.bool (decide (m1.Kind = 3)))), (36, .d (.bool (decide (m1.Kind = 3)))), (63, .d (.bool (decide (m1.Kind = 4)))), (64, .d (.bool (decide (m1.Kind = 4)))), (65, .ptr 1001 ((k1).toNat) 0), (66, .ptr 1001 ((k1).toNat) 0), (67, .ptr 1001 ((k1).toNat) 6), (70, .d (.bool false)), (71, .d (.bool false)), (75, .d (.int .i64 w2.turn)), (76, .ptr 1004 0 3), (77, .d (.int .i64 m1.Turn)), (78, .d (.bool false)), (79, .d (.bool false)), (80, .d (.bool false)), (84, .d (.bool w2.puts)), (85, .d (.bool false)), (86, .d (.bool false)), (87, .d (.bool false)), (92, .ptr 1004 0 1), (93, .d (.int .i64 m1.From)), (95, .d (.bool e5)), (96, .d (.bool e5)), (101, .ptr 1004 0 1), (102, .d (.int .i64 m1.From)), (105, .d (.bool r5.1)), (106, .ptr 0 0 0), (107, .ptr 0 0 0), (108, .ptr 0 0 2), (109, .slc 1003 0 o1.calls.length), (113, .d (.int .i64 r5.2.call)), (114, .ptr 1003 ((r5.2.call).toNat) 0), (115, .ptr 1003 ((r5.2.call).toNat) 0), (116, .ptr 1003 ((r5.2.call).toNat) 0), (120, .d (.int .i64 r5.2.value)), (121, .ptr 0 0 0), (122, .ptr 0 0 0), (123, .ptr 0 0 3), (124, .d (.int .i64 o1.clock)), (125, .ptr 1003 ((r5.2.call).toNat) 0), (126, .ptr 1003 ((r5.2.call).toNat) 2), (127, .ptr 1003 ((r5.2.call).toNat) 0), (128, .ptr 1003 ((r5.2.call).toNat) 4), (129, .ptr 1001 ((k1).toNat) 0), (130, .ptr 1001 ((k1).toNat) 0), (131, .ptr 1001 ((k1).toNat) 6)], (dynBH ((blks Pst.bs o1.posts).set ((k1).toNat) []) ([(0, ⟨67, 4, [.agg [.slc 1001 0 o1.posts.length, .slc 1002 0 o1.messages.length, .slc 1003 0 o1.calls.length, .d (.int .i64 o1.clock)]]⟩), (1001, ⟨84, 7, (nelB Pst.bs o1.posts).set ((k1).toNat) (.d (.agg [(.bool e4.up), (.int .i64 e4.stamp.No), (.int .i64 e4.stamp.Post), (.int .i64 e4.stamp.Turn), (.int .i64 e4.value), (.int .i64 e4.turns), .nilptr]))⟩), (1002, ⟨88, 8, dl (lenc Msg.pd o1.messages)⟩), (1003, ⟨51, 5, dl (lenc Cal.pd (o1.calls.set (r5.2.call).toNat (⟨e8.Post, e8.Write, e8.Value, e8.Start, o1.clock⟩ : Cal)))⟩), (1004, ⟨88, 8, [.d (.agg [(.int .i64 m1.Kind), (.int .i64 m1.From), (.int .i64 m1.To), (.int .i64 m1.Turn), (.int .i64 m1.Stamp.No), (.int .i64 m1.Stamp.Post), (.int .i64 m1.Stamp.Turn), (.int .i64 m1.Value)])]⟩)])), [], none⟩)) (shND (S := Pst.bs) 1001 ((k1).toNat) (L := o1.posts) (⟨e4.up, e4.stamp, e4.value, e4.turns, none⟩ : Pst) [(0, ⟨67, 4, [.agg [.slc 1001 0 o1.posts.length, .slc 1002 0 o1.messages.length, .slc 1003 0 o1.calls.length, .d (.int .i64 o1.clock)]]⟩), (1001, ⟨84, 7, nelB Pst.bs (o1.posts.set ((k1).toNat) (⟨e4.up, e4.stamp, e4.value, e4.turns, none⟩ : Pst))⟩), (1002, ⟨88, 8, dl (lenc Msg.pd o1.messages)⟩), (1003, ⟨51, 5, dl (lenc Cal.pd (o1.calls.set (r5.2.call).toNat (⟨e8.Post, e8.Write, e8.Value, e8.Start, o1.clock⟩ : Cal)))⟩), (1004, ⟨88, 8, [.d (.agg [(.int .i64 m1.Kind), (.int .i64 m1.From), (.int .i64 m1.To), (.int .i64 m1.Turn), (.int .i64 m1.Stamp.No), (.int .i64 m1.Stamp.Post), (.int .i64 m1.Stamp.Turn), (.int .i64 m1.Value)])]⟩)] f_31))), rtO⟩
         ·refine AWp.skip ?_
          cases h; exact ⟨_, (Sub.trans (drp [(0, .ptr 0 0 0), (1, .ptr 1001 ((k1).toNat) 0), (2, .d (.agg [(.int .i64 m1.Kind), (.int .i64 m1.From), (.int .i64 m1.To), (.int .i64 m1.Turn), (.int .i64 m1.Stamp.No), (.int .i64 m1.Stamp.Post), (.int .i64 m1.Stamp.Turn), (.int .i64 m1.Value)])), (5, .ptr 1004 0 0), (8, .ptr 1004 0 0), (9, .d (.int .i64 m1.Kind)), (10, .d (.bool (decide (m1.Kind = 1)))), (11, .d (.bool (decide (m1.Kind = 1)))), (29, .d (.bool (decide (m1.Kind = 2)))), (30, .d (.bool (decide (m1.Kind = 2)))), (35, .d (.bool (decide (m1.Kind = 3)))), (36, .d (.bool (decide (m1.Kind = 3)))), (63, .d (.bool (decide (m1.Kind = 4)))), (64, .d (.bool (decide (m1.Kind = 4)))), (65, .ptr 1001 ((k1).toNat) 0), (66, .ptr 1001 ((k1).toNat) 0), (67, .ptr 1001 ((k1).toNat) 6), (70, .d (.bool false)), (71, .d (.bool false)), (75, .d (.int .i64 w2.turn)), (76, .ptr 1004 0 3), (77, .d (.int .i64 m1.Turn)), (78, .d (.bool false)), (79, .d (.bool false)), (80, .d (.bool false)), (84, .d (.bool w2.puts)), (85, .d (.bool false)), (86, .d (.bool false)), (87, .d (.bool false)), (92, .ptr 1004 0 1), (93, .d (.int .i64 m1.From)), (95, .d (.bool e5)), (96, .d (.bool e5)), (101, .ptr 1004 0 1), (102, .d (.int .i64 m1.From)), (105, .d (.bool r5.1))]) (shS (S := Pst.bs) ((k1).toNat) 1005 1006 (⟨e4.up, e4.stamp, e4.value, e4.turns, (some r5.2)⟩ : Pst) [(0, ⟨67, 4, [.agg [.slc 1001 0 o1.posts.length, .slc 1002 0 o1.messages.length, .slc 1003 0 o1.calls.length, .d (.int .i64 o1.clock)]]⟩), (1001, ⟨84, 7, nelB Pst.bs (o1.posts.set ((k1).toNat) (⟨e4.up, e4.stamp, e4.value, e4.turns, (some r5.2)⟩ : Pst))⟩), (1002, ⟨88, 8, dl (lenc Msg.pd o1.messages)⟩), (1003, ⟨51, 5, dl (lenc Cal.pd o1.calls)⟩), (1004, ⟨88, 8, [.d (.agg [(.int .i64 m1.Kind), (.int .i64 m1.From), (.int .i64 m1.To), (.int .i64 m1.Turn), (.int .i64 m1.Stamp.No), (.int .i64 m1.Stamp.Post), (.int .i64 m1.Stamp.Turn), (.int .i64 m1.Value)])]⟩)] f_31 rfl (hl := by (repeat' (first | exact trivial | exact rfl | exact dl_ren _ _ | exact nelB_unfocus (S := Pst.bs) (q0 := 1005) (q1 := 1006) (x := (⟨e4.up, e4.stamp, e4.value, e4.turns, (some r5.2)⟩ : Pst)) f_31 rfl (by decide) (by decide) | (simp only [renL, PV.ren, List.length_append, List.length_set, List.length_replicate, List.length_cons, List.length_nil, Nat.zero_add] <;> exact rfl) | apply And.intro))))), rtO⟩
    ·refine AWp.skip ?_
     cases h; exact ⟨_, Sub.refl, rtO⟩
end Go.Pv.Try

namespace Go.Pv.Try
open Go.Proofs Go.Pv
set_option maxHeartbeats 4000000 in
theorem m_post_Net_Deliver_h_ok (o1 : Net) (i1 : Int) (r : (Int × Net)) (h : m_post_Net_Deliver_h o1 i1 = some r) : ObjFn Try.prog G 23 [.ptr 0 0 0, .d (.int .i64 i1)] (dynBH (blks Pst.bs o1.posts) ([(0, ⟨67, 4, [.agg [.slc 1001 0 o1.posts.length, .slc 1002 0 o1.messages.length, .slc 1003 0 o1.calls.length, .d (.int .i64 o1.clock)]]⟩), (1001, ⟨84, 7, nelB Pst.bs o1.posts⟩), (1002, ⟨88, 8, dl (lenc Msg.pd o1.messages)⟩), (1003, ⟨51, 5, dl (lenc Cal.pd o1.calls)⟩)])) (.d (.int .i64 r.1)) (dynBH (blks Pst.bs r.2.posts) ([(0, ⟨67, 4, [.agg [.slc 1001 0 r.2.posts.length, .slc 1002 0 r.2.messages.length, .slc 1003 0 r.2.calls.length, .d (.int .i64 r.2.clock)]]⟩), (1001, ⟨84, 7, nelB Pst.bs r.2.posts⟩), (1002, ⟨88, 8, dl (lenc Msg.pd r.2.messages)⟩), (1003, ⟨51, 5, dl (lenc Cal.pd r.2.calls)⟩)])) := by
 unfold m_post_Net_Deliver_h at h
 refine ObjFn.pf Try.func23 Try.ntmps23 ?_
 refine sg fun K k => ?_
 refine oo ?_
 refine AOps.nil (k _ ?_)
 refine AWp.seq fun _ K_1 => ?_
 refine sg fun K k => ?_
 iterate 2 refine oo ?_
 obtain ⟨r1, hx_2, h⟩ := bind_some h
 refine clB (S := Pst.bs) [(0, 0), (1001, 1001), (1002, 1002), (1003, 1003)] [1001, 1002, 1003] [] (m_post_Net_message_h_ok o1 i1 _ hx_2) ?_
 refine oo ?_
 refine AOps.nil (k _ ?_)
 refine sg fun K k => ?_
 iterate 2 refine oo ?_
 refine AOps.nil (k _ ?_)
 refine cd h (fun h => ?_) (fun h => ?_)
 ·refine sg fun K k => ?_
  iterate 2 refine oo ?_
  refine AOps.nil (k _ ?_)
  refine AWp.ret ?_
  cases h; exact rtO
 ·refine AWp.skip ?_
  refine K_1 _ ?_
  refine sg fun K k => ?_
  obtain ⟨e1, ⟨f_4, f_5, f_6, f_7⟩, h⟩ := idx_bind h
  iterate 6 refine oo ?_
  refine oo ?_ (by intro K k; simp (disch := omega) only [go_sem, f_6, ↓reduceIte]; exact k)
  iterate 2 refine oo ?_
  refine AOps.nil (k _ ?_)
  refine sg fun K k => ?_
  obtain ⟨hg_8, h⟩ := guardO_some h
  iterate 8 refine oo ?_
  refine clH 1002 (delete_hand r1.2.messages i1 (IntKind.i64.wrap (i1 + 1)) hg_8) (hrow := dyBR rfl) (hp := by (simp (disch := decide) only [go_sem, hput_dynBH, ↓reduceIte]; rfl)) (h2 := ?_)
  iterate 3 refine oo ?_
  refine AOps.sub (drp [(0, .ptr 0 0 0), (1, .d (.int .i64 i1)), (4, .d (.int .i64 0)), (5, .d (.int .i64 r1.1)), (6, .ptr 1004 0 0), (8, .ptr 0 0 0), (9, .d (.int .i64 i1)), (10, .d (.int .i64 r1.1)), (11, .d (.int .i64 r1.1)), (12, .d (.bool (decide (¬r1.1 = 0)))), (14, .ptr 0 0 0), (15, .ptr 0 0 0), (16, .ptr 0 0 1), (18, .d (.int .i64 i1)), (20, .d (.agg [(.int .i64 e1.Kind), (.int .i64 e1.From), (.int .i64 e1.To), (.int .i64 e1.Turn), (.int .i64 e1.Stamp.No), (.int .i64 e1.Stamp.Post), (.int .i64 e1.Stamp.Turn), (.int .i64 e1.Value)])), (21, .ptr 0 0 0), (22, .ptr 0 0 0), (23, .ptr 0 0 0), (24, .ptr 0 0 1), (26, .d (.int .i64 i1)), (27, .d (.int .i64 i1)), (28, .d (.int .i64 (IntKind.i64.wrap (i1 + 1)))), (30, .ptr 0 0 0), (31, .ptr 0 0 1)]) ?_
  refine AOps.sub (shr 1002 (delT r1.2.messages i1 (IntKind.i64.wrap (i1 + 1))) delP_take (hnb := dl_noByte fun _ => rfl) (hm := by rw [delP_len hg_8, delT_le hg_8]; omega)) ?_
  refine AOps.nil (k _ ?_)
  refine sg fun K k => ?_
  iterate 8 refine oo ?_
  refine AOps.nil (k _ ?_)
  refine jn (α := (Int × (List Pst) × (List Msg) × (List Cal))) [] [] (fun i t => t) (fun i t => dynBH (blks Pst.bs i.2.1) ((0, ⟨67, 4, [.agg [.slc 1001 0 i.2.1.length, .slc 1002 0 i.2.2.1.length, .slc 1003 0 i.2.2.2.length, .d (.int .i64 i.1)]]⟩) :: (1001, ⟨84, 7, nelB Pst.bs i.2.1⟩) :: (1002, ⟨88, 8, dl (lenc Msg.pd i.2.2.1)⟩) :: (1003, ⟨51, 5, dl (lenc Cal.pd i.2.2.2)⟩) :: t)) h ?_ ?_
  ·intro _ hj_10
   refine sd mo fun K k => ?_
   obtain ⟨e2, ⟨f_11, f_12, f_13, f_14⟩, hj_10⟩ := idx_bind hj_10
   iterate 8 refine dd ?_
   refine DOps.nil (by kernel_rfl) (k _ ?_)
   refine sg fun K k => ?_
   iterate 3 refine oo ?_
   refine oo ?_ (by intro K k; simp (disch := omega) only [go_sem, nelB_at (S := Pst.bs) f_13, ↓reduceIte]; exact k)
   refine AOps.nil (k _ ?_)
   refine cd hj_10 (fun hj_10 => ?_) (fun hj_10 => ?_)
   ·refine AWp.reg ?_
    iterate 3 refine oo ?_
    refine AOps.sub (τ := ⟨[(50, .ptr 0 0 0), (51, .ptr 1001 ((e1.To).toNat) 0), (52, .d (.agg [(.int .i64 e1.Kind), (.int .i64 e1.From), (.int .i64 e1.To), (.int .i64 e1.Turn), (.int .i64 e1.Stamp.No), (.int .i64 e1.Stamp.Post), (.int .i64 e1.Stamp.Turn), (.int .i64 e1.Value)]))], (dynBH (blks Pst.bs r1.2.posts) ([(0, ⟨67, 4, [.agg [.slc 1001 0 r1.2.posts.length, .slc 1002 0 ((delT r1.2.messages i1 (IntKind.i64.wrap (i1 + 1))).length), .slc 1003 0 r1.2.calls.length, .d (.int .i64 (IntKind.i64.wrap (r1.2.clock + 1)))]]⟩), (1001, ⟨84, 7, nelB Pst.bs r1.2.posts⟩), (1002, ⟨88, 8, dl (lenc Msg.pd (delT r1.2.messages i1 (IntKind.i64.wrap (i1 + 1))))⟩), (1003, ⟨51, 5, dl (lenc Cal.pd r1.2.calls)⟩)])), [], none⟩) sbB ?_
    obtain ⟨r2, hx_16, hj_10⟩ := bind_some hj_10
    refine clB (S := Pst.bs) [(0, 0), (1001, 1001), (1002, 1002), (1003, 1003)] [1001, 1002, 1003] [51] (m_post_Net_take_h_ok (⟨r1.2.posts, (delT r1.2.messages i1 (IntKind.i64.wrap (i1 + 1))), r1.2.calls, (IntKind.i64.wrap (r1.2.clock + 1))⟩ : Net) e1.To e1 _ hx_16) ?_
    refine AOps.nil ?_
    cases hj_10; exact sbB
   ·refine AWp.skip ?_
    cases hj_10; exact sbB
  ·rintro ⟨c1, L1, L2, L3⟩ h; dsimp only at h ⊢
   refine sg fun K k => ?_
   refine oo ?_
   refine AOps.nil (k _ ?_)
   refine AWp.ret ?_
   cases h; exact rtO
end Go.Pv.Try

namespace Go.Pv.Try
open Go.Proofs Go.Pv
set_option maxHeartbeats 4000000 in
theorem m_post_Net_Settle_h_ok (o1 : Net) (limit1 : Int) (r : (Int × Int × Net)) (h : m_post_Net_Settle_h o1 limit1 = some r) : ObjFn Try.prog G 17 [.ptr 0 0 0, .d (.int .i64 limit1)] (dynBH (blks Pst.bs o1.posts) ([(0, ⟨67, 4, [.agg [.slc 1001 0 o1.posts.length, .slc 1002 0 o1.messages.length, .slc 1003 0 o1.calls.length, .d (.int .i64 o1.clock)]]⟩), (1001, ⟨84, 7, nelB Pst.bs o1.posts⟩), (1002, ⟨88, 8, dl (lenc Msg.pd o1.messages)⟩), (1003, ⟨51, 5, dl (lenc Cal.pd o1.calls)⟩)])) (.tuple [.d (.int .i64 r.1), .d (.int .i64 r.2.1)]) (dynBH (blks Pst.bs r.2.2.posts) ([(0, ⟨67, 4, [.agg [.slc 1001 0 r.2.2.posts.length, .slc 1002 0 r.2.2.messages.length, .slc 1003 0 r.2.2.calls.length, .d (.int .i64 r.2.2.clock)]]⟩), (1001, ⟨84, 7, nelB Pst.bs r.2.2.posts⟩), (1002, ⟨88, 8, dl (lenc Msg.pd r.2.2.messages)⟩), (1003, ⟨51, 5, dl (lenc Cal.pd r.2.2.calls)⟩)])) := by
 unfold m_post_Net_Settle_h at h
 refine ObjFn.pf Try.func17 Try.ntmps17 ?_
 refine sg fun K k => ?_
 iterate 2 refine oo ?_
 refine AOps.nil (k _ ?_)
 refine AWp.seq fun _ K_1 => ?_
 refine AWp.block ?_
 refine sg fun K k => ?_
 refine oo ?_
 obtain ⟨r1, hx_2, h⟩ := bind_some h
 refine clB (S := Pst.bs) [(0, 0), (1001, 1001), (1002, 1002), (1003, 1003)] [1001, 1002, 1003] [] (m_post_Net_ok_h_ok o1 _ hx_2) ?_
 iterate 2 refine oo ?_
 refine AOps.nil (k _ ?_)
 refine cd h (fun h => ?_) (fun h => ?_)
 ·refine sg fun K k => ?_
  iterate 2 refine oo ?_
  refine AOps.nil (k _ ?_)
  refine AWp.ret ?_
  cases h; exact rtO
 ·refine sg fun K k => ?_
  iterate 3 refine oo ?_
  refine ctH 3 [0, 1] [0, 1001, 1002, 1003] (fun  t => (17, .d (.bool ((decide (limit1 < 0)) || (decide (100000 < limit1))))) :: t) (fun  t => dynBH (blks Pst.bs r1.2.posts) (t)) ?_ ?_
  ·rcases bt (decide (limit1 < 0)) with hg_5 | hg_5
   ·rw [hg_5]
    iterate 3 refine oo ?_
    refine AOps.nil ?_
    exact sbB
   ·rw [hg_5]
    iterate 3 refine oo ?_
    refine AOps.nil ?_
    exact sbB
  refine oo ?_
  refine AOps.nil (k _ ?_)
  refine cd h (fun h => ?_) (fun h => ?_)
  ·refine sg fun K k => ?_
   iterate 2 refine oo ?_
   refine AOps.nil (k _ ?_)
   refine AWp.ret ?_
   cases h; exact rtO
  ·refine AWp.skip ?_
   refine K_1 _ ?_
   refine sg fun K k => ?_
   refine oo ?_
   refine AOps.nil (k _ ?_)
   refine jn (α := (Int × Int × (List Pst) × (List Msg) × (List Cal))) [] [] (fun i t => (6, .d (.int .i64 i.1)) :: t) (fun i t => dynBH (blks Pst.bs i.2.2.1) ((0, ⟨67, 4, [.agg [.slc 1001 0 i.2.2.1.length, .slc 1002 0 i.2.2.2.1.length, .slc 1003 0 i.2.2.2.2.length, .d (.int .i64 i.2.1)]]⟩) :: (1001, ⟨84, 7, nelB Pst.bs i.2.2.1⟩) :: (1002, ⟨88, 8, dl (lenc Msg.pd i.2.2.2.1)⟩) :: (1003, ⟨51, 5, dl (lenc Cal.pd i.2.2.2.2)⟩) :: t)) h ?_ ?_
   ·intro _ hj_8
    refine AWp.block ?_
    obtain ⟨x_13, hl_10, h2_11⟩ := bind_some hj_8
    refine lp (S := (Int × Int × (List Pst) × (List Msg) × (List Cal))) [1] [] (fun i t => (0, .ptr 0 0 0) :: (6, .d (.int .i64 i.1)) :: t) (fun i t => dynBH (blks Pst.bs i.2.2.1) ((0, ⟨67, 4, [.agg [.slc 1001 0 i.2.2.1.length, .slc 1002 0 i.2.2.2.1.length, .slc 1003 0 i.2.2.2.2.length, .d (.int .i64 i.2.1)]]⟩) :: (1001, ⟨84, 7, nelB Pst.bs i.2.2.1⟩) :: (1002, ⟨88, 8, dl (lenc Msg.pd i.2.2.2.1)⟩) :: (1003, ⟨51, 5, dl (lenc Cal.pd i.2.2.2.2)⟩) :: t)) hl_10 ?_ ?_; exact sbB; clear hl_10
    rintro ⟨n2, c2, L4, L5, L6⟩ _ hb_12; unfold m_post_Net_Settle_h_l1 at hb_12; try dsimp only at hb_12
    try dsimp only
    refine AWp.seq fun _ K_15 => ?_
    refine sg fun K k => ?_
    iterate 4 refine oo ?_
    refine ctH 7 [0, 1, 6] [0, 1001, 1002, 1003] (fun  t => (28, .d (.bool ((decide (n2 < limit1)) && (decide (0 < (L5.length : Int)))))) :: t) (fun  t => dynBH (blks Pst.bs L4) (t)) ?_ ?_
    ·rcases bt (decide (n2 < limit1)) with hg_17 | hg_17
     ·rw [hg_17]
      iterate 7 refine oo ?_
      refine AOps.nil ?_
      exact sbB
     ·rw [hg_17]
      iterate 7 refine oo ?_
      refine AOps.nil ?_
      exact sbB
    refine AOps.nil (k _ ?_)
    refine cd hb_12 (fun hb_12 => ?_) (fun hb_12 => ?_)
    ·refine AWp.skip ?_
     refine K_15 _ ?_
     refine AWp.block ?_
     refine sg fun K k => ?_
     refine oo ?_
     obtain ⟨r2, hx_19, hb_12⟩ := bind_some hb_12
     refine clB (S := Pst.bs) [(0, 0), (1001, 1001), (1002, 1002), (1003, 1003)] [1001, 1002, 1003] [] (m_post_Net_Deliver_h_ok (⟨L4, L5, L6, c2⟩ : Net) 0 _ hx_19) ?_
     refine AOps.nil (k _ ?_)
     refine AWp.reg ?_
     iterate 3 refine oo ?_
     refine AOps.nil ?_
     exact ln hb_12 sbB
    ·refine AWp.exit ?_
     refine lx hb_12 fun hx => ?_; cases hx; try dsimp only at h2_11
     cases h2_11; exact sbB
   ·rintro ⟨n1, c1, L1, L2, L3⟩ h; dsimp only at h ⊢
    refine sg fun K k => ?_
    iterate 3 refine oo ?_
    refine AOps.nil (k _ ?_)
    refine AWp.ret ?_
    cases h; exact rtO
end Go.Pv.Try

namespace Go.Pv.Try
open Go.Proofs Go.Pv
theorem m_post_Net_Read_h_ok (o1 : Net) (no1 : Int) (r : (Int × Net)) (h : m_post_Net_Read_h o1 no1 = some r) : ObjFn Try.prog G 18 [.ptr 0 0 0, .d (.int .i64 no1)] (dynBH (blks Pst.bs o1.posts) ([(0, ⟨67, 4, [.agg [.slc 1001 0 o1.posts.length, .slc 1002 0 o1.messages.length, .slc 1003 0 o1.calls.length, .d (.int .i64 o1.clock)]]⟩), (1001, ⟨84, 7, nelB Pst.bs o1.posts⟩), (1002, ⟨88, 8, dl (lenc Msg.pd o1.messages)⟩), (1003, ⟨51, 5, dl (lenc Cal.pd o1.calls)⟩)])) (.d (.int .i64 r.1)) (dynBH (blks Pst.bs r.2.posts) ([(0, ⟨67, 4, [.agg [.slc 1001 0 r.2.posts.length, .slc 1002 0 r.2.messages.length, .slc 1003 0 r.2.calls.length, .d (.int .i64 r.2.clock)]]⟩), (1001, ⟨84, 7, nelB Pst.bs r.2.posts⟩), (1002, ⟨88, 8, dl (lenc Msg.pd r.2.messages)⟩), (1003, ⟨51, 5, dl (lenc Cal.pd r.2.calls)⟩)])) := by
 unfold m_post_Net_Read_h at h
 refine ObjFn.pf Try.func18 Try.ntmps18 ?_
 refine sg fun K k => ?_
 refine oo ?_
 refine AOps.nil (k _ ?_)
 refine AWp.seq fun _ K_1 => ?_
 refine sg fun K k => ?_
 iterate 2 refine oo ?_
 obtain ⟨r1, hx_2, h⟩ := bind_some h
 refine clB (S := Pst.bs) [(0, 0), (1001, 1001), (1002, 1002), (1003, 1003)] [1001, 1002, 1003] [] (m_post_Net_at_h_ok o1 no1 _ hx_2) ?_
 refine oo ?_
 refine AOps.nil (k _ ?_)
 refine sg fun K k => ?_
 iterate 2 refine oo ?_
 refine AOps.nil (k _ ?_)
 refine cd h (fun h => ?_) (fun h => ?_)
 ·refine sg fun K k => ?_
  iterate 2 refine oo ?_
  refine AOps.nil (k _ ?_)
  refine AWp.ret ?_
  cases h; exact rtO
 ·refine AWp.skip ?_
  refine K_1 _ ?_
  refine sg fun K k => ?_
  iterate 2 refine oo ?_
  obtain ⟨r2, hx_4, h⟩ := bind_some h
  refine clB (S := Pst.bs) [(0, 0), (1001, 1001), (1002, 1002), (1003, 1003)] [1001, 1002, 1003] [] (m_post_Net_begin_h_ok r1.2 no1 false 0 _ hx_4) ?_
  refine oo ?_
  refine AOps.nil (k _ ?_)
  refine AWp.ret ?_
  cases h; exact rtO
end Go.Pv.Try

namespace Go.Pv.Try
open Go.Proofs Go.Pv
theorem m_post_Net_Calls_h_ok (o1 : Net) (r : ((List Cal) × Net)) (h : m_post_Net_Calls_h o1 = some r) : ObjFn Try.prog G 19 [.ptr 0 0 0] (dynBH (blks Pst.bs o1.posts) ([(0, ⟨67, 4, [.agg [.slc 1001 0 o1.posts.length, .slc 1002 0 o1.messages.length, .slc 1003 0 o1.calls.length, .d (.int .i64 o1.clock)]]⟩), (1001, ⟨84, 7, nelB Pst.bs o1.posts⟩), (1002, ⟨88, 8, dl (lenc Msg.pd o1.messages)⟩), (1003, ⟨51, 5, dl (lenc Cal.pd o1.calls)⟩)])) (.slc 1004 0 r.1.length) (dynBH (blks Pst.bs r.2.posts) ([(0, ⟨67, 4, [.agg [.slc 1001 0 r.2.posts.length, .slc 1002 0 r.2.messages.length, .slc 1003 0 r.2.calls.length, .d (.int .i64 r.2.clock)]]⟩), (1001, ⟨84, 7, nelB Pst.bs r.2.posts⟩), (1002, ⟨88, 8, dl (lenc Msg.pd r.2.messages)⟩), (1003, ⟨51, 5, dl (lenc Cal.pd r.2.calls)⟩), (1004, ⟨51, 5, dl (lenc Cal.pd r.1)⟩)])) := by
 unfold m_post_Net_Calls_h at h
 refine ObjFn.pf Try.func19 Try.ntmps19 ?_
 refine sg fun K k => ?_
 refine oo ?_
 refine AOps.nil (k _ ?_)
 refine AWp.seq fun _ K_1 => ?_
 refine sg fun K k => ?_
 refine oo ?_
 obtain ⟨r1, hx_2, h⟩ := bind_some h
 refine clB (S := Pst.bs) [(0, 0), (1001, 1001), (1002, 1002), (1003, 1003)] [1001, 1002, 1003] [] (m_post_Net_ok_h_ok o1 _ hx_2) ?_
 refine oo ?_
 refine AOps.nil (k _ ?_)
 refine cd h (fun h => ?_) (fun h => ?_)
 ·refine sg fun K k => ?_
  refine oo ?_
  refine AOps.nil (k _ ?_)
  refine AWp.sub (Sub.void 2 51 5 1004 (by rfl) (dyBR rfl) (by decide) (by decide)) ?_
  simp (disch := decide) only [eput, hput, hput_dynBH, reduceCtorEq, ↓reduceIte, Nat.reduceAdd, Nat.reduceMul, Nat.reduceLT, Nat.reduceLeDiff, Nat.reduceEqDiff, Nat.reduceBEq, Int.reduceToNat]
  refine AWp.ret ?_
  cases h; exact rtO
 ·refine AWp.skip ?_
  refine K_1 _ ?_
  refine sg fun K k => ?_
  obtain ⟨hg_4, h⟩ := guardO_some h
  iterate 4 refine oo ?_
  refine clL 1003 1004 (lend_50 r1.2.calls hg_4) ?_
  refine oo ?_
  refine AOps.nil (k _ ?_)
  refine AWp.ret ?_
  cases h; exact rtO
end Go.Pv.Try

namespace Go.Pv.Try
open Go.Proofs Go.Pv
set_option maxHeartbeats 4000000 in
theorem m_cocketlaw09_alive_ok (r : Bool) (h : m_cocketlaw09_alive = some r) : PureFn Try.prog G 20 [] (.d (.bool r)) := by
 unfold m_cocketlaw09_alive at h
 refine pf Try.func20 Try.ntmps20 ?_
 refine sg fun K k => ?_
 refine oo ?_
 refine AOps.nil (k _ ?_)
 refine sg fun K k => ?_
 obtain ⟨r1, hx_1, h⟩ := bind_some h
 rcases optB_case h with ⟨hw_2, h⟩ | ⟨t1, hw_2, h⟩
 ·refine clB (S := Pst.bs) (L := []) (L' := []) [] [] [] (m_post_New_h_none 3 r1 hx_1 hw_2) (hrow := trivial) ?_
  iterate 5 refine oo ?_
  refine AOps.nil (k _ ?_)
  refine AWp.seq fun _ K_3 => ?_
  refine sg fun K k => ?_
  iterate 3 refine oo ?_
  rcases bt (decide (¬r1.2 = 0)) with hg_4 | hg_4
  ·rw [hg_4]
   replace h := condT hg_4 h
   iterate 14 refine oo ?_
   refine AOps.nil (k _ ?_)
   refine cdt ?_
   refine sg fun K k => ?_
   refine oo ?_
   refine AOps.nil (k _ ?_)
   refine AWp.ret ?_
   cases h; exact rt
  ·rw [hg_4]
   replace h := condF hg_4 h
   iterate 14 refine oo ?_
   refine AOps.nil (k _ ?_)
   refine cdt ?_
   refine sg fun K k => ?_
   refine oo ?_
   refine AOps.nil (k _ ?_)
   refine AWp.ret ?_
   cases h; exact rt
 ·refine clB (S := Pst.bs) (L := []) (L' := t1.posts) [(1000, 1000), (1001, 1001), (1002, 1002), (1003, 1003)] [] [] (m_post_New_h_some 3 r1 hx_1 t1 hw_2) (hrow := trivial) ?_
  iterate 5 refine oo ?_
  refine AOps.nil (k _ ?_)
  refine AWp.seq fun _ K_5 => ?_
  refine sg fun K k => ?_
  iterate 3 refine oo ?_
  rcases bt (decide (¬r1.2 = 0)) with hg_6 | hg_6
  ·rw [hg_6]
   replace h := condT hg_6 h
   iterate 14 refine oo ?_
   refine AOps.nil (k _ ?_)
   refine cdt ?_
   refine sg fun K k => ?_
   refine oo ?_
   refine AOps.nil (k _ ?_)
   refine AWp.ret ?_
   cases h; exact rt
  ·rw [hg_6]
   replace h := condF hg_6 h
   iterate 5 refine oo ?_
   obtain ⟨r2, hx_7, h⟩ := bind_some h
   refine clB (S := Pst.bs) [(0, 1000), (1001, 1001), (1002, 1002), (1003, 1003)] [1001, 1002, 1003] [] (m_post_Net_Write_h_ok t1 0 7 _ hx_7) ?_
   iterate 3 refine oo ?_
   rcases bt (decide (¬r2.1 = 0)) with hg_8 | hg_8
   ·rw [hg_8]
    replace h := condT hg_8 h
    iterate 5 refine oo ?_
    refine AOps.nil (k _ ?_)
    refine cdt ?_
    refine sg fun K k => ?_
    refine oo ?_
    refine AOps.nil (k _ ?_)
    refine AWp.ret ?_
    cases h; exact rt
   ·rw [hg_8]
    replace h := condF hg_8 h
    refine oo ?_
    obtain ⟨r3, hx_9, h⟩ := bind_some h
    refine clB (S := Pst.bs) [(0, 1000), (1001, 1001), (1002, 1002), (1003, 1003), (1004, 1004)] [1001, 1002, 1003] [] (m_post_Net_Messages_h_ok r2.2 _ hx_9) ?_
    iterate 3 refine oo ?_
    refine AOps.nil (k _ ?_)
    refine cd h (fun h => ?_) (fun h => ?_)
    ·refine sg fun K k => ?_
     refine oo ?_
     refine AOps.nil (k _ ?_)
     refine AWp.ret ?_
     cases h; exact rt
    ·refine AWp.skip ?_
     refine K_5 _ ?_
     refine sg fun K k => ?_
     refine oo ?_
     obtain ⟨r4, hx_11, h⟩ := bind_some h
     refine clB (S := Pst.bs) [(0, 1000), (1001, 1001), (1002, 1002), (1003, 1003)] [1001, 1002, 1003] [] (m_post_Net_Settle_h_ok r3.2 100 _ hx_11) ?_
     iterate 5 refine oo ?_
     refine AOps.nil (k _ ?_)
     refine AWp.seq fun _ K_12 => ?_
     refine sg fun K k => ?_
     iterate 3 refine oo ?_
     rcases bt (decide (¬r4.2.1 = 0)) with hg_13 | hg_13
     ·rw [hg_13]
      replace h := condT hg_13 h
      iterate 8 refine oo ?_
      refine AOps.nil (k _ ?_)
      refine cdt ?_
      refine sg fun K k => ?_
      refine oo ?_
      refine AOps.nil (k _ ?_)
      refine AWp.ret ?_
      cases h; exact rt
     ·rw [hg_13]
      replace h := condF hg_13 h
      iterate 4 refine oo ?_
      rcases bt (decide (¬r4.1 = 12)) with hg_14 | hg_14
      ·rw [hg_14]
       replace h := condT hg_14 h
       iterate 4 refine oo ?_
       refine AOps.nil (k _ ?_)
       refine cdt ?_
       refine sg fun K k => ?_
       refine oo ?_
       refine AOps.nil (k _ ?_)
       refine AWp.ret ?_
       cases h; exact rt
      ·rw [hg_14]
       replace h := condF hg_14 h
       refine oo ?_
       obtain ⟨r5, hx_15, h⟩ := bind_some h
       refine clB (S := Pst.bs) [(0, 1000), (1001, 1001), (1002, 1002), (1003, 1003)] [1001, 1002, 1003] [] (m_post_Net_Read_h_ok r4.2.2 1 _ hx_15) ?_
       iterate 2 refine oo ?_
       refine AOps.nil (k _ ?_)
       refine cd h (fun h => ?_) (fun h => ?_)
       ·refine sg fun K k => ?_
        refine oo ?_
        refine AOps.nil (k _ ?_)
        refine AWp.ret ?_
        cases h; exact rt
       ·refine AWp.skip ?_
        refine K_12 _ ?_
        refine sg fun K k => ?_
        refine oo ?_
        obtain ⟨r6, hx_17, h⟩ := bind_some h
        refine clB (S := Pst.bs) [(0, 1000), (1001, 1001), (1002, 1002), (1003, 1003)] [1001, 1002, 1003] [] (m_post_Net_Settle_h_ok r5.2 100 _ hx_17) ?_
        iterate 4 refine oo ?_
        refine AOps.nil (k _ ?_)
        refine sg fun K k => ?_
        refine oo ?_
        obtain ⟨r7, hx_18, h⟩ := bind_some h
        refine clB (S := Pst.bs) [(0, 1000), (1001, 1001), (1002, 1002), (1003, 1003), (1004, 1005)] [1001, 1002, 1003] [] (m_post_Net_Calls_h_ok r6.2.2 _ hx_18) ?_
        refine oo ?_
        refine AOps.nil (k _ ?_)
        refine sd mo fun K k => ?_
        iterate 3 refine dd ?_
        rcases bt (decide (r6.2.1 = 0)) with hg_19 | hg_19
        ·rw [hg_19]
         replace h := condT hg_19 h
         iterate 5 refine dd ?_
         rcases bt (decide ((r7.1.length : Int) = 2)) with hg_20 | hg_20
         ·rw [hg_20]
          replace h := condT hg_20 h
          obtain ⟨e1, ⟨f_21, f_22, f_23, f_24⟩, h⟩ := idx_bind h
          try simp only [Int.reduceToNat] at f_23 f_24
          iterate 3 refine dd ?_
          refine dd ?_ (by intro K k; simp (disch := omega) only [go_sem, f_23, ↓reduceIte]; exact k)
          iterate 2 refine dd ?_
          rcases bt e1.Write with hg_25 | hg_25
          ·rw [hg_25]
           replace h := condT hg_25 h
           iterate 3 refine dd ?_
           refine dd ?_ (by intro K k; simp (disch := omega) only [go_sem, f_23, ↓reduceIte]; exact k)
           iterate 3 refine dd ?_
           rcases bt (decide (e1.Start = 1)) with hg_26 | hg_26
           ·rw [hg_26]
            replace h := condT hg_26 h
            obtain ⟨e2, ⟨f_27, f_28, f_29, f_30⟩, h⟩ := idx_bind h
            try simp only [Int.reduceToNat] at f_29 f_30
            iterate 3 refine dd ?_
            refine dd ?_ (by intro K k; simp (disch := omega) only [go_sem, f_29, ↓reduceIte]; exact k)
            iterate 3 refine dd ?_
            rcases bt (decide (e2.Value = 7)) with hg_31 | hg_31
            ·rw [hg_31]
             replace h := condT hg_31 h
             iterate 3 refine dd ?_
             refine dd ?_ (by intro K k; simp (disch := omega) only [go_sem, f_29, ↓reduceIte]; exact k)
             iterate 3 refine dd ?_
             refine dd ?_ (by intro K k; simp (disch := omega) only [go_sem, f_29, ↓reduceIte]; exact k)
             iterate 3 refine dd ?_
             refine DOps.nil (by kernel_rfl) (k _ ?_)
             refine AWp.ret ?_
             cases h; exact rt
            ·rw [hg_31]
             replace h := condF hg_31 h
             iterate 11 refine dd ?_
             refine DOps.nil (by kernel_rfl) (k _ ?_)
             refine AWp.ret ?_
             cases h; exact rt
           ·rw [hg_26]
            replace h := condF hg_26 h
            iterate 18 refine dd ?_
            refine DOps.nil (by kernel_rfl) (k _ ?_)
            refine AWp.ret ?_
            cases h; exact rt
          ·rw [hg_25]
           replace h := condF hg_25 h
           iterate 25 refine dd ?_
           refine DOps.nil (by kernel_rfl) (k _ ?_)
           refine AWp.ret ?_
           cases h; exact rt
         ·rw [hg_20]
          replace h := condF hg_20 h
          iterate 31 refine dd ?_
          refine DOps.nil (by kernel_rfl) (k _ ?_)
          refine AWp.ret ?_
          cases h; exact rt
        ·rw [hg_19]
         replace h := condF hg_19 h
         iterate 36 refine dd ?_
         refine DOps.nil (by kernel_rfl) (k _ ?_)
         refine AWp.ret ?_
         cases h; exact rt
end Go.Pv.Try

namespace Go.Pv.Try
open Go.Proofs Go.Pv
theorem m_post_Net_ok_hn_ok (r : Bool) (h : m_post_Net_ok_hn = some r) : ObjFn Try.prog G 49 [.d .nilptr] [] (.d (.bool false)) [] := by
 unfold m_post_Net_ok_hn at h
 refine ObjFn.pf Try.func49 Try.ntmps49 ?_
 refine sg fun K k => ?_
 refine oo ?_
 refine AOps.nil (k _ ?_)
 refine sg fun K k => ?_
 iterate 10 refine oo ?_
 refine AOps.nil (k _ ?_)
 refine AWp.ret ?_
 cases h; exact rtO
end Go.Pv.Try

namespace Go.Pv.Try
open Go.Proofs Go.Pv
theorem m_post_Net_at_hn_ok (no1 : Int) (r : Int) (h : m_post_Net_at_hn no1 = some r) : ObjFn Try.prog G 47 [.d .nilptr, .d (.int .i64 no1)] [] (.d (.int .i64 1)) [] := by
 unfold m_post_Net_at_hn at h
 refine ObjFn.pf Try.func47 Try.ntmps47 ?_
 refine sg fun K k => ?_
 refine oo ?_
 refine AOps.nil (k _ ?_)
 refine AWp.seq fun _ K_1 => ?_
 refine AWp.block ?_
 refine sg fun K k => ?_
 refine oo ?_
 obtain ⟨r1, hx_2, h⟩ := bind_some h
 refine clU [] [] (m_post_Net_ok_hn_ok _ hx_2) ?_
 iterate 2 refine oo ?_
 refine AOps.nil (k _ ?_)
 refine cdt ?_
 refine sg fun K k => ?_
 refine oo ?_
 refine AOps.nil (k _ ?_)
 refine AWp.ret ?_
 cases h; exact rtO
end Go.Pv.Try

namespace Go.Pv.Try
open Go.Proofs Go.Pv
theorem m_post_Net_Write_hn_ok (no1 : Int) (value1 : Int) (r : Int) (h : m_post_Net_Write_hn no1 value1 = some r) : ObjFn Try.prog G 16 [.d .nilptr, .d (.int .i64 no1), .d (.int .i64 value1)] [] (.d (.int .i64 1)) [] := by
 unfold m_post_Net_Write_hn at h
 refine ObjFn.pf Try.func16 Try.ntmps16 ?_
 refine sg fun K k => ?_
 refine oo ?_
 refine AOps.nil (k _ ?_)
 refine AWp.seq fun _ K_1 => ?_
 refine sg fun K k => ?_
 iterate 2 refine oo ?_
 obtain ⟨r1, hx_2, h⟩ := bind_some h
 refine clU [] [] (m_post_Net_at_hn_ok no1 _ hx_2) ?_
 refine oo ?_
 refine AOps.nil (k _ ?_)
 refine sg fun K k => ?_
 refine oo ?_
 refine oo ?_ (by intro K k; simp (disch := omega) only [go_sem, Int.reduceEq, Int.reduceLT, Int.reduceLE, decide_true, decide_false, not_true_eq_false, not_false_eq_true, Bool.not_true, Bool.not_false, ↓reduceIte]; exact k)
 refine AOps.nil (k _ ?_)
 refine cdt ?_
 refine sg fun K k => ?_
 iterate 2 refine oo ?_
 refine AOps.nil (k _ ?_)
 refine AWp.ret ?_
 cases h; exact rtO
end Go.Pv.Try

namespace Go.Pv.Try
open Go.Proofs Go.Pv
theorem m_post_Net_Read_hn_ok (no1 : Int) (r : Int) (h : m_post_Net_Read_hn no1 = some r) : ObjFn Try.prog G 18 [.d .nilptr, .d (.int .i64 no1)] [] (.d (.int .i64 1)) [] := by
 unfold m_post_Net_Read_hn at h
 refine ObjFn.pf Try.func18 Try.ntmps18 ?_
 refine sg fun K k => ?_
 refine oo ?_
 refine AOps.nil (k _ ?_)
 refine AWp.seq fun _ K_1 => ?_
 refine sg fun K k => ?_
 iterate 2 refine oo ?_
 obtain ⟨r1, hx_2, h⟩ := bind_some h
 refine clU [] [] (m_post_Net_at_hn_ok no1 _ hx_2) ?_
 refine oo ?_
 refine AOps.nil (k _ ?_)
 refine sg fun K k => ?_
 refine oo ?_
 refine oo ?_ (by intro K k; simp (disch := omega) only [go_sem, Int.reduceEq, Int.reduceLT, Int.reduceLE, decide_true, decide_false, not_true_eq_false, not_false_eq_true, Bool.not_true, Bool.not_false, ↓reduceIte]; exact k)
 refine AOps.nil (k _ ?_)
 refine cdt ?_
 refine sg fun K k => ?_
 iterate 2 refine oo ?_
 refine AOps.nil (k _ ?_)
 refine AWp.ret ?_
 cases h; exact rtO
end Go.Pv.Try

namespace Go.Pv.Try
open Go.Proofs Go.Pv
theorem m_post_Net_message_hn_ok (i1 : Int) (r : Int) (h : m_post_Net_message_hn i1 = some r) : ObjFn Try.prog G 51 [.d .nilptr, .d (.int .i64 i1)] [] (.d (.int .i64 1)) [] := by
 unfold m_post_Net_message_hn at h
 refine ObjFn.pf Try.func51 Try.ntmps51 ?_
 refine sg fun K k => ?_
 refine oo ?_
 refine AOps.nil (k _ ?_)
 refine AWp.seq fun _ K_1 => ?_
 refine AWp.block ?_
 refine sg fun K k => ?_
 refine oo ?_
 obtain ⟨r1, hx_2, h⟩ := bind_some h
 refine clU [] [] (m_post_Net_ok_hn_ok _ hx_2) ?_
 iterate 2 refine oo ?_
 refine AOps.nil (k _ ?_)
 refine cdt ?_
 refine sg fun K k => ?_
 refine oo ?_
 refine AOps.nil (k _ ?_)
 refine AWp.ret ?_
 cases h; exact rtO
end Go.Pv.Try

namespace Go.Pv.Try
open Go.Proofs Go.Pv
theorem m_post_Net_Drop_hn_ok (i1 : Int) (r : Int) (h : m_post_Net_Drop_hn i1 = some r) : ObjFn Try.prog G 25 [.d .nilptr, .d (.int .i64 i1)] [] (.d (.int .i64 1)) [] := by
 unfold m_post_Net_Drop_hn at h
 refine ObjFn.pf Try.func25 Try.ntmps25 ?_
 refine sg fun K k => ?_
 refine oo ?_
 refine AOps.nil (k _ ?_)
 refine AWp.seq fun _ K_1 => ?_
 refine sg fun K k => ?_
 iterate 2 refine oo ?_
 obtain ⟨r1, hx_2, h⟩ := bind_some h
 refine clU [] [] (m_post_Net_message_hn_ok i1 _ hx_2) ?_
 refine oo ?_
 refine AOps.nil (k _ ?_)
 refine sg fun K k => ?_
 refine oo ?_
 refine oo ?_ (by intro K k; simp (disch := omega) only [go_sem, Int.reduceEq, Int.reduceLT, Int.reduceLE, decide_true, decide_false, not_true_eq_false, not_false_eq_true, Bool.not_true, Bool.not_false, ↓reduceIte]; exact k)
 refine AOps.nil (k _ ?_)
 refine cdt ?_
 refine sg fun K k => ?_
 iterate 2 refine oo ?_
 refine AOps.nil (k _ ?_)
 refine AWp.ret ?_
 cases h; exact rtO
end Go.Pv.Try

namespace Go.Pv.Try
open Go.Proofs Go.Pv
theorem m_post_Net_Repeat_hn_ok (i1 : Int) (r : Int) (h : m_post_Net_Repeat_hn i1 = some r) : ObjFn Try.prog G 21 [.d .nilptr, .d (.int .i64 i1)] [] (.d (.int .i64 1)) [] := by
 unfold m_post_Net_Repeat_hn at h
 refine ObjFn.pf Try.func21 Try.ntmps21 ?_
 refine sg fun K k => ?_
 refine oo ?_
 refine AOps.nil (k _ ?_)
 refine AWp.seq fun _ K_1 => ?_
 refine sg fun K k => ?_
 iterate 2 refine oo ?_
 obtain ⟨r1, hx_2, h⟩ := bind_some h
 refine clU [] [] (m_post_Net_message_hn_ok i1 _ hx_2) ?_
 refine oo ?_
 refine AOps.nil (k _ ?_)
 refine sg fun K k => ?_
 refine oo ?_
 refine oo ?_ (by intro K k; simp (disch := omega) only [go_sem, Int.reduceEq, Int.reduceLT, Int.reduceLE, decide_true, decide_false, not_true_eq_false, not_false_eq_true, Bool.not_true, Bool.not_false, ↓reduceIte]; exact k)
 refine AOps.nil (k _ ?_)
 refine cdt ?_
 refine sg fun K k => ?_
 iterate 2 refine oo ?_
 refine AOps.nil (k _ ?_)
 refine AWp.ret ?_
 cases h; exact rtO
end Go.Pv.Try

namespace Go.Pv.Try
open Go.Proofs Go.Pv
theorem m_post_Net_turn_hn_ok (no1 : Int) (up1 : Bool) (r : Int) (h : m_post_Net_turn_hn no1 up1 = some r) : ObjFn Try.prog G 67 [.d .nilptr, .d (.int .i64 no1), .d (.bool up1)] [] (.d (.int .i64 1)) [] := by
 unfold m_post_Net_turn_hn at h
 refine ObjFn.pf Try.func67 Try.ntmps67 ?_
 refine sg fun K k => ?_
 refine oo ?_
 refine AOps.nil (k _ ?_)
 refine AWp.seq fun _ K_1 => ?_
 refine sg fun K k => ?_
 iterate 2 refine oo ?_
 obtain ⟨r1, hx_2, h⟩ := bind_some h
 refine clU [] [] (m_post_Net_at_hn_ok no1 _ hx_2) ?_
 refine oo ?_
 refine AOps.nil (k _ ?_)
 refine sg fun K k => ?_
 refine oo ?_
 refine oo ?_ (by intro K k; simp (disch := omega) only [go_sem, Int.reduceEq, Int.reduceLT, Int.reduceLE, decide_true, decide_false, not_true_eq_false, not_false_eq_true, Bool.not_true, Bool.not_false, ↓reduceIte]; exact k)
 refine AOps.nil (k _ ?_)
 refine cdt ?_
 refine sg fun K k => ?_
 iterate 2 refine oo ?_
 refine AOps.nil (k _ ?_)
 refine AWp.ret ?_
 cases h; exact rtO
end Go.Pv.Try

namespace Go.Pv.Try
open Go.Proofs Go.Pv
theorem m_post_Net_Crash_hn_ok (no1 : Int) (r : Int) (h : m_post_Net_Crash_hn no1 = some r) : ObjFn Try.prog G 34 [.d .nilptr, .d (.int .i64 no1)] [] (.d (.int .i64 1)) [] := by
 unfold m_post_Net_Crash_hn at h
 refine ObjFn.pf Try.func34 Try.ntmps34 ?_
 refine sg fun K k => ?_
 refine oo ?_
 refine AOps.nil (k _ ?_)
 refine sg fun K k => ?_
 iterate 2 refine oo ?_
 obtain ⟨r1, hx_1, h⟩ := bind_some h
 refine clU [] [] (m_post_Net_turn_hn_ok no1 false _ hx_1) ?_
 refine oo ?_
 refine AOps.nil (k _ ?_)
 refine AWp.ret ?_
 cases h; exact rtO
end Go.Pv.Try

namespace Go.Pv.Try
open Go.Proofs Go.Pv
theorem m_post_Net_Start_hn_ok (no1 : Int) (r : Int) (h : m_post_Net_Start_hn no1 = some r) : ObjFn Try.prog G 35 [.d .nilptr, .d (.int .i64 no1)] [] (.d (.int .i64 1)) [] := by
 unfold m_post_Net_Start_hn at h
 refine ObjFn.pf Try.func35 Try.ntmps35 ?_
 refine sg fun K k => ?_
 refine oo ?_
 refine AOps.nil (k _ ?_)
 refine sg fun K k => ?_
 iterate 2 refine oo ?_
 obtain ⟨r1, hx_1, h⟩ := bind_some h
 refine clU [] [] (m_post_Net_turn_hn_ok no1 true _ hx_1) ?_
 refine oo ?_
 refine AOps.nil (k _ ?_)
 refine AWp.ret ?_
 cases h; exact rtO
end Go.Pv.Try

namespace Go.Pv.Try
open Go.Proofs Go.Pv
theorem m_post_Net_Settle_hn_ok (limit1 : Int) (r : (Int × Int)) (h : m_post_Net_Settle_hn limit1 = some r) : ObjFn Try.prog G 17 [.d .nilptr, .d (.int .i64 limit1)] [] (.tuple [.d (.int .i64 0), .d (.int .i64 1)]) [] := by
 unfold m_post_Net_Settle_hn at h
 refine ObjFn.pf Try.func17 Try.ntmps17 ?_
 refine sg fun K k => ?_
 iterate 2 refine oo ?_
 refine AOps.nil (k _ ?_)
 refine AWp.seq fun _ K_1 => ?_
 refine AWp.block ?_
 refine sg fun K k => ?_
 refine oo ?_
 obtain ⟨r1, hx_2, h⟩ := bind_some h
 refine clU [] [] (m_post_Net_ok_hn_ok _ hx_2) ?_
 iterate 2 refine oo ?_
 refine AOps.nil (k _ ?_)
 refine cdt ?_
 refine sg fun K k => ?_
 iterate 2 refine oo ?_
 refine AOps.nil (k _ ?_)
 refine AWp.ret ?_
 cases h; exact rtO
end Go.Pv.Try

namespace Go.Pv.Try
open Go.Proofs Go.Pv
theorem m_post_Net_Deliver_hn_ok (i1 : Int) (r : Int) (h : m_post_Net_Deliver_hn i1 = some r) : ObjFn Try.prog G 23 [.d .nilptr, .d (.int .i64 i1)] [] (.d (.int .i64 1)) [] := by
 unfold m_post_Net_Deliver_hn at h
 refine ObjFn.pf Try.func23 Try.ntmps23 ?_
 refine sg fun K k => ?_
 refine oo ?_
 refine AOps.nil (k _ ?_)
 refine AWp.seq fun _ K_1 => ?_
 refine sg fun K k => ?_
 iterate 2 refine oo ?_
 obtain ⟨r1, hx_2, h⟩ := bind_some h
 refine clU [] [] (m_post_Net_message_hn_ok i1 _ hx_2) ?_
 refine oo ?_
 refine AOps.nil (k _ ?_)
 refine sg fun K k => ?_
 refine oo ?_
 refine oo ?_ (by intro K k; simp (disch := omega) only [go_sem, Int.reduceEq, Int.reduceLT, Int.reduceLE, decide_true, decide_false, not_true_eq_false, not_false_eq_true, Bool.not_true, Bool.not_false, ↓reduceIte]; exact k)
 refine AOps.nil (k _ ?_)
 refine cdt ?_
 refine sg fun K k => ?_
 iterate 2 refine oo ?_
 refine AOps.nil (k _ ?_)
 refine AWp.ret ?_
 cases h; exact rtO
end Go.Pv.Try

namespace Go.Pv.Try
open Go.Proofs Go.Pv
set_option maxHeartbeats 4000000 in
theorem m_cocketlaw09_act_hn_ok (a1 : Act) (r : Unit) (h : m_cocketlaw09_act_hn a1 = some r) : ObjFn Try.prog G 26 [.d .nilptr, .d (.agg [(.int .u8 a1.Kind), (.int .i64 a1.A), (.int .i64 a1.B)])] [] (.tuple []) [] := by
 unfold m_cocketlaw09_act_hn at h
 refine ObjFn.pf Try.func26 Try.ntmps26 ?_
 refine sg fun K k => ?_
 refine oo ?_
 refine AOps.nil (k _ ?_)
 refine sg fun K k => ?_
 iterate 3 refine oo ?_
 refine AOps.nil (k _ ?_)
 refine AWp.block ?_
 refine jn (α := Bool) [0, 3, 6] [1000] (fun i t => (11, .d (.bool i)) :: t) (fun i t => t) h ?_ ?_
 ·intro _ hj_2
  refine sg fun K k => ?_
  iterate 2 refine oo ?_
  refine AOps.nil (k _ ?_)
  refine cd hj_2 (fun hj_2 => ?_) (fun hj_2 => ?_)
  ·refine AWp.skip ?_
   cases hj_2; exact sb
  ·refine AWp.reg ?_
   iterate 2 refine oo ?_
   refine AOps.nil ?_
   cases hj_2; exact sb
 ·rintro v1 h; dsimp only at h ⊢
  refine cd h (fun h => ?_) (fun h => ?_)
  ·refine AWp.reg ?_
   iterate 5 refine oo ?_
   obtain ⟨r1, hx_5, h⟩ := bind_some h
   refine clU [] [] (m_post_Net_Write_hn_ok a1.A a1.B _ hx_5) ?_
   refine AOps.nil ?_
   cases h; exact rtO
  ·refine jn (α := Bool) [0, 3, 6] [1000] (fun i t => (20, .d (.bool i)) :: t) (fun i t => t) h ?_ ?_
   ·intro _ hj_7
    refine sg fun K k => ?_
    iterate 2 refine oo ?_
    refine AOps.nil (k _ ?_)
    refine cd hj_7 (fun hj_7 => ?_) (fun hj_7 => ?_)
    ·refine AWp.skip ?_
     cases hj_7; exact sb
    ·refine AWp.reg ?_
     iterate 2 refine oo ?_
     refine AOps.nil ?_
     cases hj_7; exact sb
   ·rintro v2 h; dsimp only at h ⊢
    refine cd h (fun h => ?_) (fun h => ?_)
    ·refine AWp.reg ?_
     iterate 3 refine oo ?_
     obtain ⟨r2, hx_10, h⟩ := bind_some h
     refine clU [] [] (m_post_Net_Read_hn_ok a1.A _ hx_10) ?_
     refine AOps.nil ?_
     cases h; exact rtO
    ·refine sg fun K k => ?_
     iterate 2 refine oo ?_
     refine AOps.nil (k _ ?_)
     refine cd h (fun h => ?_) (fun h => ?_)
     ·refine AWp.reg ?_
      iterate 3 refine oo ?_
      obtain ⟨r3, hx_12, h⟩ := bind_some h
      refine clU [] [] (m_post_Net_Drop_hn_ok a1.A _ hx_12) ?_
      refine AOps.nil ?_
      cases h; exact rtO
     ·refine sg fun K k => ?_
      iterate 2 refine oo ?_
      refine AOps.nil (k _ ?_)
      refine cd h (fun h => ?_) (fun h => ?_)
      ·refine AWp.reg ?_
       iterate 3 refine oo ?_
       obtain ⟨r4, hx_14, h⟩ := bind_some h
       refine clU [] [] (m_post_Net_Repeat_hn_ok a1.A _ hx_14) ?_
       refine AOps.nil ?_
       cases h; exact rtO
      ·refine sg fun K k => ?_
       iterate 2 refine oo ?_
       refine AOps.nil (k _ ?_)
       refine cd h (fun h => ?_) (fun h => ?_)
       ·refine AWp.reg ?_
        iterate 3 refine oo ?_
        obtain ⟨r5, hx_16, h⟩ := bind_some h
        refine clU [] [] (m_post_Net_Crash_hn_ok a1.A _ hx_16) ?_
        refine AOps.nil ?_
        cases h; exact rtO
       ·refine sg fun K k => ?_
        iterate 2 refine oo ?_
        refine AOps.nil (k _ ?_)
        refine cd h (fun h => ?_) (fun h => ?_)
        ·refine AWp.reg ?_
         iterate 3 refine oo ?_
         obtain ⟨r6, hx_18, h⟩ := bind_some h
         refine clU [] [] (m_post_Net_Start_hn_ok a1.A _ hx_18) ?_
         refine AOps.nil ?_
         cases h; exact rtO
        ·refine sg fun K k => ?_
         iterate 2 refine oo ?_
         refine AOps.nil (k _ ?_)
         refine cd h (fun h => ?_) (fun h => ?_)
         ·refine AWp.reg ?_
          iterate 3 refine oo ?_
          obtain ⟨r7, hx_20, h⟩ := bind_some h
          refine clU [] [] (m_post_Net_Settle_hn_ok a1.A _ hx_20) ?_
          refine AOps.nil ?_
          cases h; exact rtO
         ·refine AWp.reg ?_
          iterate 3 refine oo ?_
          obtain ⟨r8, hx_21, h⟩ := bind_some h
          refine clU [] [] (m_post_Net_Deliver_hn_ok a1.A _ hx_21) ?_
          refine AOps.nil ?_
          cases h; exact rtO
end Go.Pv.Try

namespace Go.Pv.Try
open Go.Proofs Go.Pv
theorem m_post_Net_Kept_hn_ok (no1 : Int) (r : (Stamp × Int × Int)) (h : m_post_Net_Kept_hn no1 = some r) : ObjFn Try.prog G 27 [.d .nilptr, .d (.int .i64 no1)] [] (.tuple [.d (.agg [(.int .i64 r.1.No), (.int .i64 r.1.Post), (.int .i64 r.1.Turn)]), .d (.int .i64 0), .d (.int .i64 1)]) [] := by
 unfold m_post_Net_Kept_hn at h
 refine ObjFn.pf Try.func27 Try.ntmps27 ?_
 refine sg fun K k => ?_
 iterate 3 refine oo ?_
 refine AOps.nil (k _ ?_)
 refine AWp.seq fun _ K_1 => ?_
 refine sg fun K k => ?_
 iterate 2 refine oo ?_
 obtain ⟨r1, hx_2, h⟩ := bind_some h
 refine clU [] [] (m_post_Net_at_hn_ok no1 _ hx_2) ?_
 refine oo ?_
 refine AOps.nil (k _ ?_)
 refine sg fun K k => ?_
 refine oo ?_
 refine oo ?_ (by intro K k; simp (disch := omega) only [go_sem, Int.reduceEq, Int.reduceLT, Int.reduceLE, decide_true, decide_false, not_true_eq_false, not_false_eq_true, Bool.not_true, Bool.not_false, ↓reduceIte]; exact k)
 refine AOps.nil (k _ ?_)
 refine cdt ?_
 refine sg fun K k => ?_
 iterate 5 refine oo ?_
 refine AOps.nil (k _ ?_)
 refine AWp.ret ?_
 cases h; exact rtO
end Go.Pv.Try

namespace Go.Pv.Try
open Go.Proofs Go.Pv
theorem m_post_Net_Calls_hn_ok (r : (List Cal)) (h : m_post_Net_Calls_hn = some r) : ObjFn Try.prog G 19 [.d .nilptr] [] (.slc 1000 0 r.length) [(1000, ⟨51, 5, dl (lenc Cal.pd r)⟩)] := by
 unfold m_post_Net_Calls_hn at h
 refine ObjFn.pf Try.func19 Try.ntmps19 ?_
 refine sg fun K k => ?_
 refine oo ?_
 refine AOps.nil (k _ ?_)
 refine AWp.seq fun _ K_1 => ?_
 refine sg fun K k => ?_
 refine oo ?_
 obtain ⟨r1, hx_2, h⟩ := bind_some h
 refine clU [] [] (m_post_Net_ok_hn_ok _ hx_2) ?_
 refine oo ?_
 refine AOps.nil (k _ ?_)
 refine cdt ?_
 refine sg fun K k => ?_
 refine oo ?_
 refine AOps.nil (k _ ?_)
 refine AWp.sub (Sub.void 2 51 5 1000 (by rfl) (by rfl) (by decide) (by decide)) ?_
 simp only [eput, hput, reduceCtorEq, ↓reduceIte, Nat.reduceAdd, Nat.reduceMul, Nat.reduceLT, Nat.reduceLeDiff, Nat.reduceEqDiff, Nat.reduceBEq, Int.reduceToNat]
 refine AWp.ret ?_
 cases h; exact rtO
end Go.Pv.Try

namespace Go.Pv.Try
open Go.Proofs Go.Pv
theorem m_post_Net_Drop_h_ok (o1 : Net) (i1 : Int) (r : (Int × Net)) (h : m_post_Net_Drop_h o1 i1 = some r) : ObjFn Try.prog G 25 [.ptr 0 0 0, .d (.int .i64 i1)] (dynBH (blks Pst.bs o1.posts) ([(0, ⟨67, 4, [.agg [.slc 1001 0 o1.posts.length, .slc 1002 0 o1.messages.length, .slc 1003 0 o1.calls.length, .d (.int .i64 o1.clock)]]⟩), (1001, ⟨84, 7, nelB Pst.bs o1.posts⟩), (1002, ⟨88, 8, dl (lenc Msg.pd o1.messages)⟩), (1003, ⟨51, 5, dl (lenc Cal.pd o1.calls)⟩)])) (.d (.int .i64 r.1)) (dynBH (blks Pst.bs r.2.posts) ([(0, ⟨67, 4, [.agg [.slc 1001 0 r.2.posts.length, .slc 1002 0 r.2.messages.length, .slc 1003 0 r.2.calls.length, .d (.int .i64 r.2.clock)]]⟩), (1001, ⟨84, 7, nelB Pst.bs r.2.posts⟩), (1002, ⟨88, 8, dl (lenc Msg.pd r.2.messages)⟩), (1003, ⟨51, 5, dl (lenc Cal.pd r.2.calls)⟩)])) := by
 unfold m_post_Net_Drop_h at h
 refine ObjFn.pf Try.func25 Try.ntmps25 ?_
 refine sg fun K k => ?_
 refine oo ?_
 refine AOps.nil (k _ ?_)
 refine AWp.seq fun _ K_1 => ?_
 refine sg fun K k => ?_
 iterate 2 refine oo ?_
 obtain ⟨r1, hx_2, h⟩ := bind_some h
 refine clB (S := Pst.bs) [(0, 0), (1001, 1001), (1002, 1002), (1003, 1003)] [1001, 1002, 1003] [] (m_post_Net_message_h_ok o1 i1 _ hx_2) ?_
 refine oo ?_
 refine AOps.nil (k _ ?_)
 refine sg fun K k => ?_
 iterate 2 refine oo ?_
 refine AOps.nil (k _ ?_)
 refine cd h (fun h => ?_) (fun h => ?_)
 ·refine sg fun K k => ?_
  iterate 2 refine oo ?_
  refine AOps.nil (k _ ?_)
  refine AWp.ret ?_
  cases h; exact rtO
 ·refine AWp.skip ?_
  refine K_1 _ ?_
  refine sg fun K k => ?_
  obtain ⟨hg_4, h⟩ := guardO_some h
  iterate 8 refine oo ?_
  refine clH 1002 (delete_hand r1.2.messages i1 (IntKind.i64.wrap (i1 + 1)) hg_4) (hrow := dyBR rfl) (hp := by (simp (disch := decide) only [go_sem, hput_dynBH, ↓reduceIte]; rfl)) (h2 := ?_)
  iterate 3 refine oo ?_
  refine AOps.sub (drp [(0, .ptr 0 0 0), (1, .d (.int .i64 i1)), (4, .d (.int .i64 0)), (5, .d (.int .i64 r1.1)), (6, .ptr 0 0 0), (7, .d (.int .i64 i1)), (8, .d (.int .i64 r1.1)), (9, .d (.int .i64 r1.1)), (10, .d (.bool (decide (¬r1.1 = 0)))), (12, .ptr 0 0 0), (13, .ptr 0 0 0), (14, .ptr 0 0 0), (15, .ptr 0 0 1), (17, .d (.int .i64 i1)), (18, .d (.int .i64 i1)), (19, .d (.int .i64 (IntKind.i64.wrap (i1 + 1)))), (21, .ptr 0 0 0), (22, .ptr 0 0 1)]) ?_
  refine AOps.sub (shr 1002 (delT r1.2.messages i1 (IntKind.i64.wrap (i1 + 1))) delP_take (hnb := dl_noByte fun _ => rfl) (hm := by rw [delP_len hg_4, delT_le hg_4]; omega)) ?_
  refine AOps.nil (k _ ?_)
  refine sg fun K k => ?_
  refine oo ?_
  refine AOps.nil (k _ ?_)
  refine AWp.ret ?_
  cases h; exact rtO
end Go.Pv.Try

namespace Go.Pv.Try
open Go.Proofs Go.Pv
set_option maxHeartbeats 4000000 in
theorem m_post_Net_Repeat_h_ok (o1 : Net) (i1 : Int) (r : (Int × Net)) (h : m_post_Net_Repeat_h o1 i1 = some r) : ObjFn Try.prog G 21 [.ptr 0 0 0, .d (.int .i64 i1)] (dynBH (blks Pst.bs o1.posts) ([(0, ⟨67, 4, [.agg [.slc 1001 0 o1.posts.length, .slc 1002 0 o1.messages.length, .slc 1003 0 o1.calls.length, .d (.int .i64 o1.clock)]]⟩), (1001, ⟨84, 7, nelB Pst.bs o1.posts⟩), (1002, ⟨88, 8, dl (lenc Msg.pd o1.messages)⟩), (1003, ⟨51, 5, dl (lenc Cal.pd o1.calls)⟩)])) (.d (.int .i64 r.1)) (dynBH (blks Pst.bs r.2.posts) ([(0, ⟨67, 4, [.agg [.slc 1001 0 r.2.posts.length, .slc 1002 0 r.2.messages.length, .slc 1003 0 r.2.calls.length, .d (.int .i64 r.2.clock)]]⟩), (1001, ⟨84, 7, nelB Pst.bs r.2.posts⟩), (1002, ⟨88, 8, dl (lenc Msg.pd r.2.messages)⟩), (1003, ⟨51, 5, dl (lenc Cal.pd r.2.calls)⟩)])) := by
 unfold m_post_Net_Repeat_h at h
 refine ObjFn.pf Try.func21 Try.ntmps21 ?_
 refine sg fun K k => ?_
 refine oo ?_
 refine AOps.nil (k _ ?_)
 refine AWp.seq fun _ K_1 => ?_
 refine sg fun K k => ?_
 iterate 2 refine oo ?_
 obtain ⟨r1, hx_2, h⟩ := bind_some h
 refine clB (S := Pst.bs) [(0, 0), (1001, 1001), (1002, 1002), (1003, 1003)] [1001, 1002, 1003] [] (m_post_Net_message_h_ok o1 i1 _ hx_2) ?_
 refine oo ?_
 refine AOps.nil (k _ ?_)
 refine sg fun K k => ?_
 iterate 2 refine oo ?_
 refine AOps.nil (k _ ?_)
 refine cd h (fun h => ?_) (fun h => ?_)
 ·refine sg fun K k => ?_
  iterate 2 refine oo ?_
  refine AOps.nil (k _ ?_)
  refine AWp.ret ?_
  cases h; exact rtO
 ·refine AWp.skip ?_
  refine K_1 _ ?_
  refine AWp.seq fun _ K_4 => ?_
  refine sg fun K k => ?_
  iterate 6 refine oo ?_
  refine AOps.nil (k _ ?_)
  refine cd h (fun h => ?_) (fun h => ?_)
  ·refine sg fun K k => ?_
   refine oo ?_
   refine AOps.nil (k _ ?_)
   refine AWp.ret ?_
   cases h; exact rtO
  ·refine AWp.skip ?_
   refine K_4 _ ?_
   refine AWp.sub (τ := ⟨[(0, .ptr 0 0 0), (1, .d (.int .i64 i1)), (4, .d (.int .i64 0)), (5, .d (.int .i64 r1.1)), (6, .ptr 0 0 0), (7, .d (.int .i64 i1)), (8, .d (.int .i64 r1.1)), (9, .d (.int .i64 r1.1)), (10, .d (.bool (decide (¬r1.1 = 0)))), (12, .ptr 0 0 0), (13, .ptr 0 0 0), (14, .ptr 0 0 1), (16, .d (.int .i64 (r1.2.messages.length : Int))), (17, .d (.bool (decide (500 ≤ (r1.2.messages.length : Int)))))], (dynBH (blks Pst.bs r1.2.posts) ([(0, ⟨67, 4, [.agg [.slc 1001 0 r1.2.posts.length, .slc 1002 0 r1.2.messages.length, .slc 1003 0 r1.2.calls.length, .d (.int .i64 r1.2.clock)]]⟩), (1001, ⟨84, 7, nelB Pst.bs r1.2.posts⟩), (1002, ⟨88, 8, dl (lenc Msg.pd r1.2.messages)⟩), (1003, ⟨51, 5, dl (lenc Cal.pd r1.2.calls)⟩)])), [], none⟩) sbB ?_
   refine sdX mo [(1002, [22, 26, 28, 31, 1000000])] fun K k => ?_
   iterate 10 (refine dd ?_ (by intro K k; simp (disch := omega) only [go_sem, true_or, or_true, and_self, true_and, and_true, ↓reduceIte]; exact k))
   obtain ⟨e1, ⟨f_6, f_7, f_8, f_9⟩, h⟩ := idx_bind h
   refine ddF [26] ?_ (by intro K k; simp (disch := omega) only [go_sem, true_or, or_true, and_self, true_and, and_true, ↓reduceIte]; exact k)
   refine ddF [28] ?_ (by intro K k; simp (disch := omega) only [go_sem, f_8, true_or, or_true, and_self, true_and, and_true, ↓reduceIte]; exact k)
   refine ddl ?_ (by intro K k; simp (disch := omega) only [go_sem, true_or, or_true, and_self, true_and, and_true, ↓reduceIte]; exact k)
   obtain ⟨hg_10, h⟩ := guardO_some h
   refine dapH [22, 26, 28, 31, 1000000] [(0, ⟨67, 4, [.agg [.slc 1001 0 r1.2.posts.length, .slc 1002 0 r1.2.messages.length, .slc 1003 0 r1.2.calls.length, .d (.int .i64 r1.2.clock)]]⟩)] (dl (lenc Msg.pd [e1])) se34 ?_
   iterate 3 (refine dd ?_ (by intro K k; simp (disch := omega) only [go_sem, true_or, or_true, and_self, true_and, and_true, ↓reduceIte]; exact k))
   refine DOps.nil (by kernel_rfl) (k _ ?_)
   refine sg fun K k => ?_
   refine oo ?_
   refine AOps.nil (k _ ?_)
   refine AWp.ret ?_
   cases h; exact rtO
end Go.Pv.Try

namespace Go.Pv.Try
open Go.Proofs Go.Pv
set_option maxHeartbeats 4000000 in
theorem m_post_Net_turn_h_ok (o1 : Net) (no1 : Int) (up1 : Bool) (r : (Int × Net)) (h : m_post_Net_turn_h o1 no1 up1 = some r) : ObjFn Try.prog G 67 [.ptr 0 0 0, .d (.int .i64 no1), .d (.bool up1)] (dynBH (blks Pst.bs o1.posts) ([(0, ⟨67, 4, [.agg [.slc 1001 0 o1.posts.length, .slc 1002 0 o1.messages.length, .slc 1003 0 o1.calls.length, .d (.int .i64 o1.clock)]]⟩), (1001, ⟨84, 7, nelB Pst.bs o1.posts⟩), (1002, ⟨88, 8, dl (lenc Msg.pd o1.messages)⟩), (1003, ⟨51, 5, dl (lenc Cal.pd o1.calls)⟩)])) (.d (.int .i64 r.1)) (dynBH (blks Pst.bs r.2.posts) ([(0, ⟨67, 4, [.agg [.slc 1001 0 r.2.posts.length, .slc 1002 0 r.2.messages.length, .slc 1003 0 r.2.calls.length, .d (.int .i64 r.2.clock)]]⟩), (1001, ⟨84, 7, nelB Pst.bs r.2.posts⟩), (1002, ⟨88, 8, dl (lenc Msg.pd r.2.messages)⟩), (1003, ⟨51, 5, dl (lenc Cal.pd r.2.calls)⟩)])) := by
 unfold m_post_Net_turn_h at h
 refine ObjFn.pf Try.func67 Try.ntmps67 ?_
 refine sg fun K k => ?_
 refine oo ?_
 refine AOps.nil (k _ ?_)
 refine AWp.seq fun _ K_1 => ?_
 refine sg fun K k => ?_
 iterate 2 refine oo ?_
 obtain ⟨r1, hx_2, h⟩ := bind_some h
 refine clB (S := Pst.bs) [(0, 0), (1001, 1001), (1002, 1002), (1003, 1003)] [1001, 1002, 1003] [] (m_post_Net_at_h_ok o1 no1 _ hx_2) ?_
 refine oo ?_
 refine AOps.nil (k _ ?_)
 refine sg fun K k => ?_
 iterate 2 refine oo ?_
 refine AOps.nil (k _ ?_)
 refine cd h (fun h => ?_) (fun h => ?_)
 ·refine sg fun K k => ?_
  iterate 2 refine oo ?_
  refine AOps.nil (k _ ?_)
  refine AWp.ret ?_
  cases h; exact rtO
 ·refine AWp.skip ?_
  refine K_1 _ ?_
  refine AWp.seq fun _ K_4 => ?_
  refine sg fun K k => ?_
  obtain ⟨e1, ⟨f_5, f_6, f_7, f_8⟩, h⟩ := idx_bind h
  iterate 7 refine oo ?_
  refine oo ?_ (by intro K k; simp (disch := omega) only [go_sem, nelB_at (S := Pst.bs) f_7, ↓reduceIte]; exact k)
  iterate 2 refine oo ?_
  refine AOps.nil (k _ ?_)
  refine cd h (fun h => ?_) (fun h => ?_)
  ·refine sg fun K k => ?_
   refine oo ?_
   refine AOps.nil (k _ ?_)
   refine AWp.ret ?_
   cases h; exact rtO
  ·refine AWp.skip ?_
   refine K_4 _ ?_
   obtain ⟨e2, ⟨f_10, f_11, f_12, f_13⟩, h⟩ := idx_bind h
   rcases optB_case h with ⟨hw_14, h⟩ | ⟨w1, hw_14, h⟩
   ·have hF_15 := fun p => nelB_hole (S := Pst.bs) f_12 p
    have hwS_16 : Pst.bs.wk e2 = none := hw_14
    refine AWp.sub (opN (S := Pst.bs) ((no1).toNat) f_12 hwS_16 (hl := by rw [nelB_open f_12 hwS_16, Pst_F])) ?_
    refine sd mo fun K k => ?_
    iterate 13 refine dd ?_
    refine dd ?_ (by intro K k; simp (disch := omega) only [go_sem, hF_15, List.set_set, ↓reduceIte]; exact k)
    iterate 2 refine dd ?_
    refine dd ?_ (by intro K k; simp (disch := omega) only [go_sem, hF_15, List.set_set, ↓reduceIte]; exact k)
    refine DOps.nil (by kernel_rfl) (k _ ?_)
    refine sg fun K k => ?_
    refine oo ?_
    refine AOps.nil (k _ ?_)
    refine AWp.sub (τ := ⟨[(0, .ptr 0 0 0), (1, .d (.int .i64 no1)), (2, .d (.bool up1)), (6, .d (.int .i64 0)), (7, .d (.int .i64 r1.1)), (8, .ptr 0 0 0), (9, .d (.int .i64 no1)), (10, .d (.int .i64 r1.1)), (11, .d (.int .i64 r1.1)), (12, .d (.bool (decide (¬r1.1 = 0)))), (14, .ptr 0 0 0), (15, .ptr 0 0 0), (16, .ptr 0 0 0), (17, .slc 1001 0 r1.2.posts.length), (18, .d (.int .i64 no1)), (19, .ptr 1001 ((no1).toNat) 0), (20, .ptr 1001 ((no1).toNat) 0), (21, .d (.bool e1.up)), (22, .d (.bool up1)), (23, .d (.bool (e1.up == up1))), (24, .ptr 0 0 0), (25, .ptr 0 0 0), (26, .ptr 0 0 0), (27, .slc 1001 0 r1.2.posts.length), (28, .d (.int .i64 no1)), (29, .ptr 0 0 0), (30, .ptr 0 0 0), (31, .ptr 0 0 0), (32, .slc 1001 0 r1.2.posts.length), (33, .d (.int .i64 no1)), (34, .d (.bool up1)), (35, .ptr 1001 ((no1).toNat) 0), (36, .ptr 1001 ((no1).toNat) 0), (37, .ptr 1001 ((no1).toNat) 0), (38, .ptr 1001 ((no1).toNat) 6)], (dynBH ((blks Pst.bs r1.2.posts).set ((no1).toNat) []) ([(0, ⟨67, 4, [.agg [.slc 1001 0 r1.2.posts.length, .slc 1002 0 r1.2.messages.length, .slc 1003 0 r1.2.calls.length, .d (.int .i64 r1.2.clock)]]⟩), (1001, ⟨84, 7, (nelB Pst.bs r1.2.posts).set ((no1).toNat) (.d (.agg [(.bool up1), (.int .i64 e2.stamp.No), (.int .i64 e2.stamp.Post), (.int .i64 e2.stamp.Turn), (.int .i64 e2.value), (.int .i64 e2.turns), .nilptr]))⟩), (1002, ⟨88, 8, dl (lenc Msg.pd r1.2.messages)⟩), (1003, ⟨51, 5, dl (lenc Cal.pd r1.2.calls)⟩)])), [], none⟩) sbB ?_
    refine AWp.sub (shND (S := Pst.bs) 1001 ((no1).toNat) (L := r1.2.posts) (⟨up1, e2.stamp, e2.value, e2.turns, none⟩ : Pst) [(0, ⟨67, 4, [.agg [.slc 1001 0 r1.2.posts.length, .slc 1002 0 r1.2.messages.length, .slc 1003 0 r1.2.calls.length, .d (.int .i64 r1.2.clock)]]⟩), (1001, ⟨84, 7, nelB Pst.bs (r1.2.posts.set ((no1).toNat) (⟨up1, e2.stamp, e2.value, e2.turns, none⟩ : Pst))⟩), (1002, ⟨88, 8, dl (lenc Msg.pd r1.2.messages)⟩), (1003, ⟨51, 5, dl (lenc Cal.pd r1.2.calls)⟩)] f_12) ?_
    refine AWp.ret ?_
    cases h; exact rtO
   ·have hF_17 := fun p => nelB_hole (S := Pst.bs) f_12 p
    have hwS_18 : Pst.bs.wk e2 = some w1 := hw_14
    refine AWp.sub (opS (S := Pst.bs) ((no1).toNat) 1004 1005 (⟨103, 9, [.agg [.d (.int .i64 w1.turn), .d (.int .i64 w1.call), .d (.bool w1.write), .d (.bool w1.puts), .d (.int .i64 w1.stamp.No), .d (.int .i64 w1.stamp.Post), .d (.int .i64 w1.stamp.Turn), .d (.int .i64 w1.value), .slc 1005 0 w1.answered.length]]⟩ : Row) (⟨4, 1, dl (lenc PD.bool w1.answered)⟩ : Row) f_12 hwS_18 (hl := by (simp only [renHeap, Row.ren, renL, PV.ren, dl_ren, focB_low, nelB_focus f_12 hwS_18, Nat.reduceLT, Pst_F]; rfl))) ?_
    refine sd mo fun K k => ?_
    iterate 13 refine dd ?_
    refine dd ?_ (by intro K k; simp (disch := omega) only [go_sem, hF_17, List.set_set, ↓reduceIte]; exact k)
    iterate 2 refine dd ?_
    refine dd ?_ (by intro K k; simp (disch := omega) only [go_sem, hF_17, List.set_set, ↓reduceIte]; exact k)
    refine DOps.nil (by kernel_rfl) (k _ ?_)
    refine sg fun K k => ?_
    refine oo ?_
    refine AOps.nil (k _ ?_)
    refine AWp.sub (τ := ⟨[(0, .ptr 0 0 0), (1, .d (.int .i64 no1)), (2, .d (.bool up1)), (6, .d (.int .i64 0)), (7, .d (.int .i64 r1.1)), (8, .ptr 0 0 0), (9, .d (.int .i64 no1)), (10, .d (.int .i64 r1.1)), (11, .d (.int .i64 r1.1)), (12, .d (.bool (decide (¬r1.1 = 0)))), (14, .ptr 0 0 0), (15, .ptr 0 0 0), (16, .ptr 0 0 0), (17, .slc 1001 0 r1.2.posts.length), (18, .d (.int .i64 no1)), (19, .ptr 1001 ((no1).toNat) 0), (20, .ptr 1001 ((no1).toNat) 0), (21, .d (.bool e1.up)), (22, .d (.bool up1)), (23, .d (.bool (e1.up == up1))), (24, .ptr 0 0 0), (25, .ptr 0 0 0), (26, .ptr 0 0 0), (27, .slc 1001 0 r1.2.posts.length), (28, .d (.int .i64 no1)), (29, .ptr 0 0 0), (30, .ptr 0 0 0), (31, .ptr 0 0 0), (32, .slc 1001 0 r1.2.posts.length), (33, .d (.int .i64 no1)), (34, .d (.bool up1)), (35, .ptr 1001 ((no1).toNat) 0), (36, .ptr 1001 ((no1).toNat) 0), (37, .ptr 1001 ((no1).toNat) 0), (38, .ptr 1001 ((no1).toNat) 6)], (dynBH ((blks Pst.bs r1.2.posts).set ((no1).toNat) []) ([(0, ⟨67, 4, [.agg [.slc 1001 0 r1.2.posts.length, .slc 1002 0 r1.2.messages.length, .slc 1003 0 r1.2.calls.length, .d (.int .i64 r1.2.clock)]]⟩), (1001, ⟨84, 7, (nelB Pst.bs r1.2.posts).set ((no1).toNat) (.d (.agg [(.bool up1), (.int .i64 e2.stamp.No), (.int .i64 e2.stamp.Post), (.int .i64 e2.stamp.Turn), (.int .i64 e2.value), (.int .i64 e2.turns), .nilptr]))⟩), (1002, ⟨88, 8, dl (lenc Msg.pd r1.2.messages)⟩), (1003, ⟨51, 5, dl (lenc Cal.pd r1.2.calls)⟩)])), [], none⟩) sbB ?_
    refine AWp.sub (τ := ⟨[(0, .ptr 0 0 0), (1, .d (.int .i64 no1)), (2, .d (.bool up1)), (6, .d (.int .i64 0)), (7, .d (.int .i64 r1.1)), (8, .ptr 0 0 0), (9, .d (.int .i64 no1)), (10, .d (.int .i64 r1.1)), (11, .d (.int .i64 r1.1)), (12, .d (.bool (decide (¬r1.1 = 0)))), (14, .ptr 0 0 0), (15, .ptr 0 0 0), (16, .ptr 0 0 0), (17, .slc 1001 0 r1.2.posts.length), (18, .d (.int .i64 no1)), (19, .ptr 1001 ((no1).toNat) 0), (20, .ptr 1001 ((no1).toNat) 0), (21, .d (.bool e1.up)), (22, .d (.bool up1)), (23, .d (.bool (e1.up == up1))), (24, .ptr 0 0 0), (25, .ptr 0 0 0), (26, .ptr 0 0 0), (27, .slc 1001 0 r1.2.posts.length), (28, .d (.int .i64 no1)), (29, .ptr 0 0 0), (30, .ptr 0 0 0), (31, .ptr 0 0 0), (32, .slc 1001 0 r1.2.posts.length), (33, .d (.int .i64 no1)), (34, .d (.bool up1)), (35, .ptr 1001 ((no1).toNat) 0), (36, .ptr 1001 ((no1).toNat) 0), (37, .ptr 1001 ((no1).toNat) 0), (38, .ptr 1001 ((no1).toNat) 6)], (dynBH ((blks Pst.bs r1.2.posts).set ((no1).toNat) []) ([(0, ⟨67, 4, [.agg [.slc 1001 0 r1.2.posts.length, .slc 1002 0 r1.2.messages.length, .slc 1003 0 r1.2.calls.length, .d (.int .i64 r1.2.clock)]]⟩), (1001, ⟨84, 7, (nelB Pst.bs r1.2.posts).set ((no1).toNat) (.d (.agg [(.bool up1), (.int .i64 e2.stamp.No), (.int .i64 e2.stamp.Post), (.int .i64 e2.stamp.Turn), (.int .i64 e2.value), (.int .i64 e2.turns), .nilptr]))⟩), (1002, ⟨88, 8, dl (lenc Msg.pd r1.2.messages)⟩), (1003, ⟨51, 5, dl (lenc Cal.pd r1.2.calls)⟩)])), [], none⟩) sbB ?_
    refine AWp.sub (shND (S := Pst.bs) 1001 ((no1).toNat) (L := r1.2.posts) (⟨up1, e2.stamp, e2.value, e2.turns, none⟩ : Pst) [(0, ⟨67, 4, [.agg [.slc 1001 0 r1.2.posts.length, .slc 1002 0 r1.2.messages.length, .slc 1003 0 r1.2.calls.length, .d (.int .i64 r1.2.clock)]]⟩), (1001, ⟨84, 7, nelB Pst.bs (r1.2.posts.set ((no1).toNat) (⟨up1, e2.stamp, e2.value, e2.turns, none⟩ : Pst))⟩), (1002, ⟨88, 8, dl (lenc Msg.pd r1.2.messages)⟩), (1003, ⟨51, 5, dl (lenc Cal.pd r1.2.calls)⟩)] f_12) ?_
    refine AWp.ret ?_
    cases h; exact rtO
end Go.Pv.Try

namespace Go.Pv.Try
open Go.Proofs Go.Pv
theorem m_post_Net_Crash_h_ok (o1 : Net) (no1 : Int) (r : (Int × Net)) (h : m_post_Net_Crash_h o1 no1 = some r) : ObjFn Try.prog G 34 [.ptr 0 0 0, .d (.int .i64 no1)] (dynBH (blks Pst.bs o1.posts) ([(0, ⟨67, 4, [.agg [.slc 1001 0 o1.posts.length, .slc 1002 0 o1.messages.length, .slc 1003 0 o1.calls.length, .d (.int .i64 o1.clock)]]⟩), (1001, ⟨84, 7, nelB Pst.bs o1.posts⟩), (1002, ⟨88, 8, dl (lenc Msg.pd o1.messages)⟩), (1003, ⟨51, 5, dl (lenc Cal.pd o1.calls)⟩)])) (.d (.int .i64 r.1)) (dynBH (blks Pst.bs r.2.posts) ([(0, ⟨67, 4, [.agg [.slc 1001 0 r.2.posts.length, .slc 1002 0 r.2.messages.length, .slc 1003 0 r.2.calls.length, .d (.int .i64 r.2.clock)]]⟩), (1001, ⟨84, 7, nelB Pst.bs r.2.posts⟩), (1002, ⟨88, 8, dl (lenc Msg.pd r.2.messages)⟩), (1003, ⟨51, 5, dl (lenc Cal.pd r.2.calls)⟩)])) := by
 unfold m_post_Net_Crash_h at h
 refine ObjFn.pf Try.func34 Try.ntmps34 ?_
 refine sg fun K k => ?_
 refine oo ?_
 refine AOps.nil (k _ ?_)
 refine sg fun K k => ?_
 iterate 2 refine oo ?_
 obtain ⟨r1, hx_1, h⟩ := bind_some h
 refine clB (S := Pst.bs) [(0, 0), (1001, 1001), (1002, 1002), (1003, 1003)] [1001, 1002, 1003] [] (m_post_Net_turn_h_ok o1 no1 false _ hx_1) ?_
 refine oo ?_
 refine AOps.nil (k _ ?_)
 refine AWp.ret ?_
 cases h; exact rtO
end Go.Pv.Try

namespace Go.Pv.Try
open Go.Proofs Go.Pv
theorem m_post_Net_Start_h_ok (o1 : Net) (no1 : Int) (r : (Int × Net)) (h : m_post_Net_Start_h o1 no1 = some r) : ObjFn Try.prog G 35 [.ptr 0 0 0, .d (.int .i64 no1)] (dynBH (blks Pst.bs o1.posts) ([(0, ⟨67, 4, [.agg [.slc 1001 0 o1.posts.length, .slc 1002 0 o1.messages.length, .slc 1003 0 o1.calls.length, .d (.int .i64 o1.clock)]]⟩), (1001, ⟨84, 7, nelB Pst.bs o1.posts⟩), (1002, ⟨88, 8, dl (lenc Msg.pd o1.messages)⟩), (1003, ⟨51, 5, dl (lenc Cal.pd o1.calls)⟩)])) (.d (.int .i64 r.1)) (dynBH (blks Pst.bs r.2.posts) ([(0, ⟨67, 4, [.agg [.slc 1001 0 r.2.posts.length, .slc 1002 0 r.2.messages.length, .slc 1003 0 r.2.calls.length, .d (.int .i64 r.2.clock)]]⟩), (1001, ⟨84, 7, nelB Pst.bs r.2.posts⟩), (1002, ⟨88, 8, dl (lenc Msg.pd r.2.messages)⟩), (1003, ⟨51, 5, dl (lenc Cal.pd r.2.calls)⟩)])) := by
 unfold m_post_Net_Start_h at h
 refine ObjFn.pf Try.func35 Try.ntmps35 ?_
 refine sg fun K k => ?_
 refine oo ?_
 refine AOps.nil (k _ ?_)
 refine sg fun K k => ?_
 iterate 2 refine oo ?_
 obtain ⟨r1, hx_1, h⟩ := bind_some h
 refine clB (S := Pst.bs) [(0, 0), (1001, 1001), (1002, 1002), (1003, 1003)] [1001, 1002, 1003] [] (m_post_Net_turn_h_ok o1 no1 true _ hx_1) ?_
 refine oo ?_
 refine AOps.nil (k _ ?_)
 refine AWp.ret ?_
 cases h; exact rtO
end Go.Pv.Try

namespace Go.Pv.Try
open Go.Proofs Go.Pv
set_option maxHeartbeats 4000000 in
theorem m_cocketlaw09_act_h_ok (o1 : Net) (a1 : Act) (r : Net) (h : m_cocketlaw09_act_h o1 a1 = some r) : ObjFn Try.prog G 26 [.ptr 0 0 0, .d (.agg [(.int .u8 a1.Kind), (.int .i64 a1.A), (.int .i64 a1.B)])] (dynBH (blks Pst.bs o1.posts) ([(0, ⟨67, 4, [.agg [.slc 1001 0 o1.posts.length, .slc 1002 0 o1.messages.length, .slc 1003 0 o1.calls.length, .d (.int .i64 o1.clock)]]⟩), (1001, ⟨84, 7, nelB Pst.bs o1.posts⟩), (1002, ⟨88, 8, dl (lenc Msg.pd o1.messages)⟩), (1003, ⟨51, 5, dl (lenc Cal.pd o1.calls)⟩)])) (.tuple []) (dynBH (blks Pst.bs r.posts) ([(0, ⟨67, 4, [.agg [.slc 1001 0 r.posts.length, .slc 1002 0 r.messages.length, .slc 1003 0 r.calls.length, .d (.int .i64 r.clock)]]⟩), (1001, ⟨84, 7, nelB Pst.bs r.posts⟩), (1002, ⟨88, 8, dl (lenc Msg.pd r.messages)⟩), (1003, ⟨51, 5, dl (lenc Cal.pd r.calls)⟩)])) := by
 unfold m_cocketlaw09_act_h at h
 refine ObjFn.pf Try.func26 Try.ntmps26 ?_
 refine sg fun K k => ?_
 refine oo ?_
 refine AOps.nil (k _ ?_)
 refine sg fun K k => ?_
 iterate 3 refine oo ?_
 refine AOps.nil (k _ ?_)
 refine AWp.block ?_
 refine jn (α := Bool) [0, 3, 6] [0, 1001, 1002, 1003, 1004] (fun i t => (11, .d (.bool i)) :: t) (fun i t => dynBH (blks Pst.bs o1.posts) (t)) h ?_ ?_
 ·intro _ hj_2
  refine sg fun K k => ?_
  iterate 2 refine oo ?_
  refine AOps.nil (k _ ?_)
  refine cd hj_2 (fun hj_2 => ?_) (fun hj_2 => ?_)
  ·refine AWp.skip ?_
   cases hj_2; exact sbB
  ·refine AWp.reg ?_
   iterate 2 refine oo ?_
   refine AOps.nil ?_
   cases hj_2; exact sbB
 ·rintro v1 h; dsimp only at h ⊢
  refine cd h (fun h => ?_) (fun h => ?_)
  ·refine AWp.reg ?_
   iterate 5 refine oo ?_
   obtain ⟨r1, hx_5, h⟩ := bind_some h
   refine clB (S := Pst.bs) [(0, 0), (1001, 1001), (1002, 1002), (1003, 1003)] [1001, 1002, 1003] [] (m_post_Net_Write_h_ok o1 a1.A a1.B _ hx_5) ?_
   refine AOps.nil ?_
   cases h; exact rtO
  ·refine jn (α := Bool) [0, 3, 6] [0, 1001, 1002, 1003, 1004] (fun i t => (20, .d (.bool i)) :: t) (fun i t => dynBH (blks Pst.bs o1.posts) (t)) h ?_ ?_
   ·intro _ hj_7
    refine sg fun K k => ?_
    iterate 2 refine oo ?_
    refine AOps.nil (k _ ?_)
    refine cd hj_7 (fun hj_7 => ?_) (fun hj_7 => ?_)
    ·refine AWp.skip ?_
     cases hj_7; exact sbB
    ·refine AWp.reg ?_
     iterate 2 refine oo ?_
     refine AOps.nil ?_
     cases hj_7; exact sbB
   ·rintro v2 h; dsimp only at h ⊢
    refine cd h (fun h => ?_) (fun h => ?_)
    ·refine AWp.reg ?_
     iterate 3 refine oo ?_
     obtain ⟨r2, hx_10, h⟩ := bind_some h
     refine clB (S := Pst.bs) [(0, 0), (1001, 1001), (1002, 1002), (1003, 1003)] [1001, 1002, 1003] [] (m_post_Net_Read_h_ok o1 a1.A _ hx_10) ?_
     refine AOps.nil ?_
     cases h; exact rtO
    ·refine sg fun K k => ?_
     iterate 2 refine oo ?_
     refine AOps.nil (k _ ?_)
     refine cd h (fun h => ?_) (fun h => ?_)
     ·refine AWp.reg ?_
      iterate 3 refine oo ?_
      obtain ⟨r3, hx_12, h⟩ := bind_some h
      refine clB (S := Pst.bs) [(0, 0), (1001, 1001), (1002, 1002), (1003, 1003)] [1001, 1002, 1003] [] (m_post_Net_Drop_h_ok o1 a1.A _ hx_12) ?_
      refine AOps.nil ?_
      cases h; exact rtO
     ·refine sg fun K k => ?_
      iterate 2 refine oo ?_
      refine AOps.nil (k _ ?_)
      refine cd h (fun h => ?_) (fun h => ?_)
      ·refine AWp.reg ?_
       iterate 3 refine oo ?_
       obtain ⟨r4, hx_14, h⟩ := bind_some h
       refine clB (S := Pst.bs) [(0, 0), (1001, 1001), (1002, 1002), (1003, 1003)] [1001, 1002, 1003] [] (m_post_Net_Repeat_h_ok o1 a1.A _ hx_14) ?_
       refine AOps.nil ?_
       cases h; exact rtO
      ·refine sg fun K k => ?_
       iterate 2 refine oo ?_
       refine AOps.nil (k _ ?_)
       refine cd h (fun h => ?_) (fun h => ?_)
       ·refine AWp.reg ?_
        iterate 3 refine oo ?_
        obtain ⟨r5, hx_16, h⟩ := bind_some h
        refine clB (S := Pst.bs) [(0, 0), (1001, 1001), (1002, 1002), (1003, 1003)] [1001, 1002, 1003] [] (m_post_Net_Crash_h_ok o1 a1.A _ hx_16) ?_
        refine AOps.nil ?_
        cases h; exact rtO
       ·refine sg fun K k => ?_
        iterate 2 refine oo ?_
        refine AOps.nil (k _ ?_)
        refine cd h (fun h => ?_) (fun h => ?_)
        ·refine AWp.reg ?_
         iterate 3 refine oo ?_
         obtain ⟨r6, hx_18, h⟩ := bind_some h
         refine clB (S := Pst.bs) [(0, 0), (1001, 1001), (1002, 1002), (1003, 1003)] [1001, 1002, 1003] [] (m_post_Net_Start_h_ok o1 a1.A _ hx_18) ?_
         refine AOps.nil ?_
         cases h; exact rtO
        ·refine sg fun K k => ?_
         iterate 2 refine oo ?_
         refine AOps.nil (k _ ?_)
         refine cd h (fun h => ?_) (fun h => ?_)
         ·refine AWp.reg ?_
          iterate 3 refine oo ?_
          obtain ⟨r7, hx_20, h⟩ := bind_some h
          refine clB (S := Pst.bs) [(0, 0), (1001, 1001), (1002, 1002), (1003, 1003)] [1001, 1002, 1003] [] (m_post_Net_Settle_h_ok o1 a1.A _ hx_20) ?_
          refine AOps.nil ?_
          cases h; exact rtO
         ·refine AWp.reg ?_
          iterate 3 refine oo ?_
          obtain ⟨r8, hx_21, h⟩ := bind_some h
          refine clB (S := Pst.bs) [(0, 0), (1001, 1001), (1002, 1002), (1003, 1003)] [1001, 1002, 1003] [] (m_post_Net_Deliver_h_ok o1 a1.A _ hx_21) ?_
          refine AOps.nil ?_
          cases h; exact rtO
end Go.Pv.Try

namespace Go.Pv.Try
open Go.Proofs Go.Pv
theorem m_post_Net_Kept_h_ok (o1 : Net) (no1 : Int) (r : (Stamp × Int × Int × Net)) (h : m_post_Net_Kept_h o1 no1 = some r) : ObjFn Try.prog G 27 [.ptr 0 0 0, .d (.int .i64 no1)] (dynBH (blks Pst.bs o1.posts) ([(0, ⟨67, 4, [.agg [.slc 1001 0 o1.posts.length, .slc 1002 0 o1.messages.length, .slc 1003 0 o1.calls.length, .d (.int .i64 o1.clock)]]⟩), (1001, ⟨84, 7, nelB Pst.bs o1.posts⟩), (1002, ⟨88, 8, dl (lenc Msg.pd o1.messages)⟩), (1003, ⟨51, 5, dl (lenc Cal.pd o1.calls)⟩)])) (.tuple [.d (.agg [(.int .i64 r.1.No), (.int .i64 r.1.Post), (.int .i64 r.1.Turn)]), .d (.int .i64 r.2.1), .d (.int .i64 r.2.2.1)]) (dynBH (blks Pst.bs r.2.2.2.posts) ([(0, ⟨67, 4, [.agg [.slc 1001 0 r.2.2.2.posts.length, .slc 1002 0 r.2.2.2.messages.length, .slc 1003 0 r.2.2.2.calls.length, .d (.int .i64 r.2.2.2.clock)]]⟩), (1001, ⟨84, 7, nelB Pst.bs r.2.2.2.posts⟩), (1002, ⟨88, 8, dl (lenc Msg.pd r.2.2.2.messages)⟩), (1003, ⟨51, 5, dl (lenc Cal.pd r.2.2.2.calls)⟩)])) := by
 unfold m_post_Net_Kept_h at h
 refine ObjFn.pf Try.func27 Try.ntmps27 ?_
 refine sg fun K k => ?_
 iterate 3 refine oo ?_
 refine AOps.nil (k _ ?_)
 refine AWp.seq fun _ K_1 => ?_
 refine sg fun K k => ?_
 iterate 2 refine oo ?_
 obtain ⟨r1, hx_2, h⟩ := bind_some h
 refine clB (S := Pst.bs) [(0, 0), (1001, 1001), (1002, 1002), (1003, 1003)] [1001, 1002, 1003] [] (m_post_Net_at_h_ok o1 no1 _ hx_2) ?_
 refine oo ?_
 refine AOps.nil (k _ ?_)
 refine sg fun K k => ?_
 iterate 2 refine oo ?_
 refine AOps.nil (k _ ?_)
 refine cd h (fun h => ?_) (fun h => ?_)
 ·refine sg fun K k => ?_
  iterate 5 refine oo ?_
  refine AOps.nil (k _ ?_)
  refine AWp.ret ?_
  cases h; exact rtO
 ·refine AWp.skip ?_
  refine K_1 _ ?_
  refine sd mo fun K k => ?_
  obtain ⟨e1, ⟨f_4, f_5, f_6, f_7⟩, h⟩ := idx_bind h
  iterate 7 refine dd ?_
  refine dd ?_ (by intro K k; simp (disch := omega) only [go_sem, nelB_at (S := Pst.bs) f_6, ↓reduceIte]; exact k)
  iterate 7 refine dd ?_
  refine dd ?_ (by intro K k; simp (disch := omega) only [go_sem, nelB_at (S := Pst.bs) f_6, ↓reduceIte]; exact k)
  iterate 3 refine dd ?_
  refine DOps.nil (by kernel_rfl) (k _ ?_)
  refine AWp.ret ?_
  cases h; exact rtO
end Go.Pv.Try

namespace Go.Pv.Try
open Go.Proofs Go.Pv
set_option maxHeartbeats 4000000 in
theorem m_cocketlaw09_lower_ok (a1 : Stamp) (b1 : Stamp) (r : Bool) (h : m_cocketlaw09_lower a1 b1 = some r) : PureFn Try.prog G 28 [.d (.agg [(.int .i64 a1.No), (.int .i64 a1.Post), (.int .i64 a1.Turn)]), .d (.agg [(.int .i64 b1.No), (.int .i64 b1.Post), (.int .i64 b1.Turn)])] (.d (.bool r)) := by
 unfold m_cocketlaw09_lower at h
 refine pf Try.func28 Try.ntmps28 ?_
 refine sg fun K k => ?_
 iterate 3 refine oo ?_
 refine AOps.nil (k _ ?_)
 refine AWp.seq fun _ K_1 => ?_
 refine sg fun K k => ?_
 iterate 5 refine oo ?_
 refine AOps.nil (k _ ?_)
 refine cd h (fun h => ?_) (fun h => ?_)
 ·refine sg fun K k => ?_
  iterate 6 refine oo ?_
  refine AOps.nil (k _ ?_)
  refine AWp.ret ?_
  cases h; exact rt
 ·refine AWp.skip ?_
  refine K_1 _ ?_
  refine sg fun K k => ?_
  iterate 6 refine oo ?_
  refine ct 13 [] [] (fun  t => (33, .d (.bool ((decide (a1.Post < b1.Post)) || ((decide (a1.Post = b1.Post)) && (decide (a1.Turn < b1.Turn)))))) :: t) ?_ ?_
  ·rcases bt (decide (a1.Post < b1.Post)) with hg_6 | hg_6
   ·rw [hg_6]
    iterate 13 refine oo ?_
    refine AOps.nil ?_
    exact sb
   ·rw [hg_6]
    iterate 6 refine oo ?_
    refine ct 6 [20] [] (fun  t => (32, .d (.bool ((decide (a1.Post = b1.Post)) && (decide (a1.Turn < b1.Turn))))) :: t) ?_ ?_
    ·rcases bt (decide (a1.Post = b1.Post)) with hg_5 | hg_5
     ·rw [hg_5]
      iterate 6 refine oo ?_
      refine AOps.nil ?_
      exact sb
     ·rw [hg_5]
      iterate 6 refine oo ?_
      refine AOps.nil ?_
      exact sb
    refine oo ?_
    refine AOps.nil ?_
    exact sb
  refine oo ?_
  refine AOps.nil (k _ ?_)
  refine AWp.ret ?_
  cases h; exact rt
end Go.Pv.Try

