/- TariffLean answers true for every input, as its tied card says: under the conditions of the card (Rows, Cards, Tie), no more. Part 6 of 8: by one AI agent and its programs; no person has read it. -/
import Derived.Test.YtnfnkllhjaemnaaDoorTariffLeanA
import Derived.Test.YtnfnkllhjaemnaaDoorTariffLeanB
import Derived.Test.YtnfnkllhjaemnaaDoorTariffLeanC
import Derived.Test.YtnfnkllhjaemnaaDoorTariffLeanD
import Derived.Test.YtnfnkllhjaemnaaDoorTariffLeanE
import Derived.Shelf.Sort.Plain
import Derived.Shelf.Slices.CompactI
import Derived.Shelf.Slices.In.SortNone
import Derived.Test.YtnfnkllhjaemnaaDoorProg
import Derived.Shelf.Strconv.Itoa0
import Derived.Shelf.Strconv.Itoa1
import Derived.Shelf.LaysM
import Derived.Shelf.Strconv.Itoa2
import Derived.Shelf.Strconv.Itoa3
set_option linter.unusedSimpArgs false
set_option linter.unusedVariables false
set_option linter.all false

namespace Go.Pv
theorem fine_band {k : Nat} {r : Rule} (h : fineR (k : Int) r = true) {mark : Nat} (hm : mark < k) : mark < r.Bands.length ∧ 0 ≤ (bandAt r mark).Lo ∧ (bandAt r mark).Lo < (bandAt r mark).Hi ∧ (bandAt r mark).Hi ≤ 1000 := by
  have hl := fine_len h
  have hlt : mark < r.Bands.length := by omega
  unfold fineR at h
  simp only [Bool.and_eq_true, Bool.not_eq_true', List.any_eq_false] at h
  have hb := h.2 (bandAt r mark) (by
    unfold bandAt
    simp only [List.getD, List.getElem?_eq_getElem hlt, Option.getD_some]
    exact List.getElem_mem hlt)
  simp only [bandBad, Bool.or_eq_true, decide_eq_true_eq, not_or] at hb
  omega
theorem fitsN_lt {t : List Rule} (ht : t.length ≤ 24) (mark : Nat) (x : Int) : fitsN t mark x < 2 ^ 24 := setOf_lt _ _ _ _ (by omega)
noncomputable def csOf (s t : List Rule) (mark : Nat) : List Int := (m_tariff_cuts (mark : Int) [s, t]).getD []
theorem csOf_ok {k : Nat} {s t : List Rule} (hs : s.length ≤ 24 ∧ ∀ r ∈ s, fineR (k : Int) r = true) (ht : t.length ≤ 24 ∧ ∀ r ∈ t, fineR (k : Int) r = true) {mark : Nat} (hm : mark < k) : m_tariff_cuts (mark : Int) [s, t] = some (csOf s t mark) ∧ Cuts mark [s, t] (csOf s t mark) ∧ (csOf s t mark).length ≤ 97 := by
  obtain ⟨cs, h1, h2, h3⟩ := cuts_prog mark [s, t] (by simp) (fun u hu => by
    simp only [List.mem_cons, List.not_mem_nil, or_false] at hu
    rcases hu with rfl | rfl
    · exact ⟨hs.1, fun r hr => (fine_band (hs.2 r hr) hm).1⟩
    · exact ⟨ht.1, fun r hr => (fine_band (ht.2 r hr) hm).1⟩) (fun u hu r hr => by
    simp only [List.mem_cons, List.not_mem_nil, or_false] at hu
    rcases hu with rfl | rfl
    · exact (fine_band (hs.2 r hr) hm).2
    · exact (fine_band (ht.2 r hr) hm).2)
  have e : csOf s t mark = cs := by unfold csOf; rw [h1]; rfl
  rw [e]; exact ⟨h1, h2, h3⟩
def diffP (s t : List Rule) (a b : Nat) : Bool := decide (¬ codeN s a = codeN t b)
theorem differ_F {k : Nat} (hk : k ≤ 4) {s t : List Rule} (hs : s.length ≤ 24 ∧ ∀ r ∈ s, fineR (k : Int) r = true) (ht : t.length ≤ 24 ∧ ∀ r ∈ t, fineR (k : Int) r = true) (n : Nat) (M : List (Arr3_Int × Bool)) (mark a b : Nat) (hm : mark ≤ k) (ha : a < 2 ^ s.length) (hb : b < 2 ^ t.length) :
    m_tariff_walker_find_1_h_f95_f94 (n + 1) (⟨(k : Int), s, t⟩ : Walker) s t M (mark : Int) (a : Int) (b : Int) = if mark = k then some ([], diffP s t a b, M) else
      cond ((mget (⟨(mark : Int), (a : Int), (b : Int)⟩ : Arr3_Int) M).getD false) (some ([], false, M))
        ((pieceL (fun M u => m_tariff_walker_find_1_h_f95_f94 n (⟨(k : Int), s, t⟩ : Walker) s t M ((mark + 1 : Nat) : Int) ((a &&& fitsN s mark u : Nat) : Int) ((b &&& fitsN t mark u : Nat) : Int)) 0 (csOf s t mark) M).bind (afterP ⟨(mark : Int), (a : Int), (b : Int)⟩)) := by
  have ha2 : a < 2 ^ 24 := Nat.lt_of_lt_of_le ha (Nat.pow_le_pow_right (by omega) hs.1)
  have hb2 : b < 2 ^ 24 := Nat.lt_of_lt_of_le hb (Nat.pow_le_pow_right (by omega) ht.1)
  show m_tariff_walker_find_1_h_f95_f94_b (m_tariff_walker_find_1_h_f95_f94 n) (⟨(k : Int), s, t⟩ : Walker) s t M (mark : Int) (a : Int) (b : Int) = _
  unfold m_tariff_walker_find_1_h_f95_f94_b
  dsimp only
  by_cases he : mark = k
  · subst he
    rw [if_pos rfl, decide_eq_true rfl, cond_true, setFirst_eq a (by omega), setFirst_eq b (by omega)]
    simp only [Option.bind_some]
    unfold m_tariff_differ_2_f94
    rw [code_prog s a ha, code_prog t b hb]
    rfl
  · obtain ⟨c1, c2, c3⟩ := csOf_ok hs ht (show mark < k by omega)
    rw [if_neg he, decide_eq_false (by omega), cond_false, wrap_i64_eq (x := (a : Int)) (by omega), wrap_i64_eq (x := (b : Int)) (by omega), c1]
    cases (mget (⟨(mark : Int), (a : Int), (b : Int)⟩ : Arr3_Int) M).getD false with
    | true => rfl
    | false =>
      simp only [cond_false, Option.bind_some]
      have hl := loop_piece (cs := csOf s t mark) (rec := fun M u => m_tariff_walker_find_1_h_f95_f94 n (⟨(k : Int), s, t⟩ : Walker) s t M ((mark + 1 : Nat) : Int) ((a &&& fitsN s mark u : Nat) : Int) ((b &&& fitsN t mark u : Nat) : Int))
        (f := m_tariff_walker_find_1_h_f95_f94_l1 (mark : Int) (a : Int) (b : Int) (⟨(k : Int), s, t⟩ : Walker) s t (m_tariff_walker_find_1_h_f95_f94 n) (csOf s t mark))
        (fun u v M e hv hi => by
          unfold m_tariff_walker_find_1_h_f95_f94_l1
          dsimp only
          have hfs := fitsN_lt hs.1 mark u
          have hft := fitsN_lt ht.1 mark u
          have hw : IntKind.i64.wrap ((v : Int) + 1) = ((v + 1 : Nat) : Int) := by rw [wrap_i64_eq (by omega)]; rfl
          have hw2 : IntKind.i64.wrap ((mark : Int) + 1) = ((mark + 1 : Nat) : Int) := by rw [wrap_i64_eq (by omega)]; rfl
          rw [decide_eq_true (by omega), cond_true, hi]
          simp only [Option.bind_some]
          rw [fits_eq s mark u hs.1 (fun r hr => (fine_band (hs.2 r hr) (by omega)).1), fits_eq t mark u ht.1 (fun r hr => (fine_band (ht.2 r hr) (by omega)).1)]
          simp only [Option.bind_some]
          rw [and_u32 (by omega) (by omega), and_u32 (by omega) (by omega), hw, hw2]
          rfl)
        (fun u M => by
          unfold m_tariff_walker_find_1_h_f95_f94_l1
          dsimp only
          rw [decide_eq_false (by omega)]; rfl) (csOf s t mark).length 0 0 M (by omega) (by omega)
      rw [show ((0 : Nat) : Int) = 0 from rfl, List.drop_zero] at hl
      rw [hl]
      cases pieceL (fun M u => m_tariff_walker_find_1_h_f95_f94 n (⟨(k : Int), s, t⟩ : Walker) s t M ((mark + 1 : Nat) : Int) ((a &&& fitsN s mark u : Nat) : Int) ((b &&& fitsN t mark u : Nat) : Int)) 0 (csOf s t mark) M with
      | none => rfl
      | some o => cases o <;> rfl
theorem differ_prog {k : Nat} (hk : k ≤ 4) {s t : List Rule} (hs : s.length ≤ 24 ∧ ∀ r ∈ s, fineR (k : Int) r = true) (ht : t.length ≤ 24 ∧ ∀ r ∈ t, fineR (k : Int) r = true) : ∃ xs f, m_tariff_differ (k : Int) s t = some (xs, f) ∧ Ans s t (diffP s t) 0 k (allN s) (allN t) f xs := by
  unfold m_tariff_differ m_tariff_walker_find_f95_f94
  dsimp only
  rw [all_prog s hs.1, all_prog t ht.1]
  simp only [Option.bind_some]
  obtain ⟨xs, f, M', h1, _, h3⟩ := walk_ok hk (cs := csOf s t) (P := diffP s t) (s := s) (t := t) (k := k) (fun mark hm => (csOf_ok hs ht hm).2.1) (F := fun n M m a b => m_tariff_walker_find_1_h_f95_f94 n (⟨(k : Int), s, t⟩ : Walker) s t M m a b)
    (fun n M mark a b hm ha hb => differ_F hk hs ht n M mark a b hm ha hb) k 100 [] 0 (allN s) (allN t) (by omega) (by omega) (by omega) (allN_lt s) (allN_lt t) (fun mark a b _ h => by cases h)
  have h1 : m_tariff_walker_find_1_h_f95_f94 100 (⟨(k : Int), s, t⟩ : Walker) s t [] 0 (allN s : Int) (allN t : Int) = some (xs, f, M') := h1
  rw [h1]
  exact ⟨xs, f, rfl, h3⟩
end Go.Pv

namespace Go.Pv
end Go.Pv

namespace Go.Pv
structure TabOk (t : Table) : Prop where
  size : t.heads = [] ∨ t.heads.length = 4096
  next : t.next.length = t.keys.length
  heads : ∀ x ∈ t.heads, -1 ≤ x ∧ x < t.keys.length
  back : ∀ (i : Nat) (x : Int), t.next[i]? = some x → -1 ≤ x ∧ x < i
  few : t.keys.length ≤ 2000000000
end Go.Pv

namespace Go.Pv
structure CmpOk (s t : List Rule) (P : Nat → Nat → Bool) (k : Nat) (o : Compare) : Prop where
  ek : o.k = (k : Int)
  es : o.s = s
  et : o.t = t
  tab : TabOk o.alike
  memo : ∀ mark a b : Nat, mark ≤ k → (⟨(mark : Int), (a : Int), (b : Int)⟩ : Arr3_Int) ∈ o.alike.keys → Ans s t P mark (k - mark) a b false []
end Go.Pv

namespace Go.Pv
theorem chk_two (k : Int) (s t : List Rule) : chk k [s, t] = if chk k [s] = 0 then chk k [t] else chk k [s] := by
  unfold chk
  by_cases hk : 1 ≤ k ∧ k ≤ 4
  · simp only [if_pos hk, chkL]
    cases h : chk1 k s == 0 with
    | true => simp
    | false =>
      have : chk1 k s ≠ 0 := by simpa using h
      simp [this]
  · simp [if_neg hk]
end Go.Pv

namespace Go.Pv
end Go.Pv

namespace Go.Pv
def posN (m a : Nat) : Nat := if firstN a < 0 then m else (firstN a).toNat
def unitV (m a : Nat) : List Int := (List.replicate (m + 1) (0 : Int)).set (posN m a) 1
def addV (l : List Int) (c : Int) (v : List Int) : List Int := List.zipWith (fun x y => x + c * y) l v
def sumV (m : Nat) (g : Int → List Int) : Nat → List Int
  | 0 => List.replicate (m + 1) 0
  | n + 1 => addV (sumV m g n) 1 (g (n : Int))
def cntV (t : List Rule) : Nat → Nat → Nat → List Int
  | 0, _, a => unitV t.length a
  | d + 1, mark, a => sumV t.length (fun x => cntV t d (mark + 1) (a &&& fitsN t mark x)) 1000
theorem addV_len {l v : List Int} {c : Int} (h : l.length = v.length) : (addV l c v).length = l.length := by
  unfold addV; rw [List.length_zipWith]; omega
theorem unitV_len (m a : Nat) : (unitV m a).length = m + 1 := by unfold unitV; simp
theorem sumV_len {m : Nat} {g : Int → List Int} (hg : ∀ x, (g x).length = m + 1) : ∀ n, (sumV m g n).length = m + 1
  | 0 => by simp [sumV]
  | n + 1 => by
    rw [sumV, addV_len (by rw [sumV_len hg n, hg]), sumV_len hg n]
theorem cntV_len (t : List Rule) : ∀ (d mark a : Nat), (cntV t d mark a).length = t.length + 1
  | 0, _, a => unitV_len _ _
  | d + 1, mark, a => sumV_len (fun x => cntV_len t d (mark + 1) _) 1000
theorem addV_get {l v : List Int} {c : Int} (h : l.length = v.length) {i : Nat} (hi : i < l.length) : (addV l c v)[i]? = some (l[i] + c * v[i]'(by omega)) := by
  unfold addV
  rw [List.getElem?_zipWith, List.getElem?_eq_getElem hi, List.getElem?_eq_getElem (by omega)]
theorem addV_add {l v : List Int} (c d : Int) (h : l.length = v.length) : addV (addV l c v) d v = addV l (c + d) v := by
  apply List.ext_getElem?
  intro i
  by_cases hi : i < l.length
  · have h1 := addV_len (c := c) h
    rw [addV_get (by rw [h1]; exact h) (by rw [h1]; exact hi), addV_get h hi]
    have h2 := addV_get (c := c) h hi
    rw [List.getElem?_eq_getElem (by rw [h1]; exact hi)] at h2
    simp only [Option.some.injEq] at h2
    rw [h2, Int.add_mul]
    congr 1; omega
  · rw [List.getElem?_eq_none (by rw [addV_len (by rw [addV_len h]; exact h), addV_len h]; omega), List.getElem?_eq_none (by rw [addV_len h]; omega)]
theorem addV_zero {l v : List Int} (h : l.length = v.length) : addV l 0 v = l := by
  apply List.ext_getElem?
  intro i
  by_cases hi : i < l.length
  · rw [addV_get h hi, List.getElem?_eq_getElem hi]; simp
  · rw [List.getElem?_eq_none (by rw [addV_len h]; omega), List.getElem?_eq_none (by omega)]
theorem sumV_piece {m : Nat} {g : Int → List Int} (hg : ∀ x, (g x).length = m + 1) (u : Nat) : ∀ (n : Nat), (∀ x : Nat, u ≤ x → x < u + n → g x = g u) → sumV m g (u + n) = addV (sumV m g u) (n : Int) (g u)
  | 0, _ => by rw [Nat.add_zero]; exact (addV_zero (by rw [sumV_len hg, hg])).symm
  | n + 1, h => by
    rw [← Nat.add_assoc, sumV, sumV_piece hg u n fun x h1 h2 => h x h1 (by omega), h (u + n) (by omega) (by omega), addV_add _ _ (by rw [sumV_len hg, hg])]
    rfl
def within (B : Int) (l : List Int) : Prop := ∀ x ∈ l, 0 ≤ x ∧ x ≤ B
theorem unitV_within (m a : Nat) : within 1 (unitV m a) := fun x hx => by
  unfold unitV at hx
  rcases List.mem_or_eq_of_mem_set hx with h | h
  · have := (List.mem_replicate.1 h).2; omega
  · omega
theorem addV_within {l v : List Int} {A B : Int} {c : Int} (hc : 0 ≤ c) (hl : within A l) (hv : within B v) (h : l.length = v.length) : within (A + c * B) (addV l c v) := fun x hx => by
  obtain ⟨i, hi, rfl⟩ := List.getElem_of_mem hx
  rw [addV_len h] at hi
  have h2 := addV_get (c := c) h hi
  rw [List.getElem?_eq_getElem (by rw [addV_len h]; exact hi)] at h2
  simp only [Option.some.injEq] at h2
  rw [h2]
  have h3 := hl l[i] (List.getElem_mem hi)
  have h4 := hv (v[i]'(by omega)) (List.getElem_mem _)
  have h5 : 0 ≤ c * v[i]'(by omega) := Int.mul_nonneg hc h4.1
  have h6 : c * v[i]'(by omega) ≤ c * B := Int.mul_le_mul_of_nonneg_left h4.2 hc
  omega
theorem sumV_within {m : Nat} {g : Int → List Int} {B : Int} (hg : ∀ x, (g x).length = m + 1) (hb : ∀ x, within B (g x)) : ∀ n : Nat, within ((n : Int) * B) (sumV m g n)
  | 0 => fun x hx => by
    have := (List.mem_replicate.1 hx).2
    simp; omega
  | n + 1 => by
    have h1 := addV_within (c := 1) (by omega) (sumV_within hg hb n) (hb (n : Int)) (by rw [sumV_len hg, hg])
    have e : ((n + 1 : Nat) : Int) * B = (n : Int) * B + 1 * B := by rw [← Int.add_mul]; rfl
    rw [e]; exact h1
theorem cntV_within (t : List Rule) : ∀ (d mark a : Nat), within (1000 ^ d) (cntV t d mark a)
  | 0, _, a => unitV_within _ _
  | d + 1, mark, a => by
    have h := sumV_within (m := t.length) (g := fun x => cntV t d (mark + 1) (a &&& fitsN t mark x)) (fun x => cntV_len t d _ _) (fun x => cntV_within t d _ _) 1000
    have e : (1000 : Int) ^ (d + 1) = ((1000 : Nat) : Int) * 1000 ^ d := by rw [Int.pow_succ, Int.mul_comm]; rfl
    rw [e]; exact h
end Go.Pv

namespace Go.Pv
theorem acc_loop {Y : Type} {f : (Int × List Int) → Option ((Int × List Int) ⊕ Y)} {L V : List Int} {c : Int} {e : List Int → Y} (h : L.length = V.length)
    (hf : ∀ (v : Nat) (hv : v < V.length) (L' : List Int), L'.length = L.length → idx L' (v : Int) = some (L[v]'(by omega)) → f ((v : Int), L') = some (.inl (((v + 1 : Nat) : Int), L'.set v ((L[v]'(by omega)) + c * V[v]))))
    (hend : ∀ L', f ((V.length : Int), L') = some (.inr (e L'))) : ∀ (n v : Nat) (L' : List Int), n = V.length - v → v ≤ V.length → L' = (addV L c V).take v ++ L.drop v → iter f ((v : Int), L') = some (e (addV L c V))
  | 0, v, L', hn, hv, hL => by
    have : v = V.length := by omega
    subst this
    have h1 := addV_len (c := c) h
    rw [iter_done (hend L'), hL, List.take_of_length_le (by omega), drop_all L (by omega), List.append_nil]
  | n + 1, v, L', hn, hv, hL => by
    have hv2 : v < V.length := by omega
    have h1 := addV_len (c := c) h
    have hvL : v < L.length := by omega
    have hget : L'[v]? = some (L[v]'hvL) := by
      rw [hL, List.getElem?_append_right (by simp; omega)]
      simp only [List.length_take, Nat.min_eq_left (show v ≤ (addV L c V).length by omega), Nat.sub_self, List.getElem?_drop, Nat.add_zero]
      exact List.getElem?_eq_getElem (by omega)
    have hlen : L'.length = L.length := by rw [hL]; simp; omega
    have hidx : idx L' (v : Int) = some (L[v]'hvL) := by
      unfold idx; simp [hget]
    refine iter_step (hf v hv2 L' hlen hidx) (acc_loop h hf hend n (v + 1) _ (by omega) (by omega) ?_)
    apply List.ext_getElem?
    intro i
    rw [List.getElem?_set]
    have hg := addV_get (c := c) h (i := v) (by omega)
    by_cases hiv : v = i
    · subst hiv
      rw [if_pos rfl, if_pos (by omega), List.getElem?_append_left (by simp; omega), List.getElem?_take, if_pos (by omega), hg]
    · rw [if_neg hiv, hL]
      by_cases hlt : i < v
      · rw [List.getElem?_append_left (by simp; omega), List.getElem?_append_left (by simp; omega), List.getElem?_take, List.getElem?_take, if_pos hlt, if_pos (by omega)]
      · rw [List.getElem?_append_right (by simp; omega), List.getElem?_append_right (by simp; omega)]
        simp only [List.length_take, List.getElem?_drop]
        congr 1
        omega
theorem mul_small {c v : Int} (hc : 0 ≤ c ∧ c ≤ 1000) (hv : 0 ≤ v ∧ v ≤ 1000000000000) : 0 ≤ c * v ∧ c * v ≤ 1000000000000000 := by
  refine ⟨Int.mul_nonneg hc.1 hv.1, ?_⟩
  have := Int.mul_le_mul hc.2 hv.2 hv.1 (by decide)
  simpa using this
theorem acc_prog {L V : List Int} {u e : Int} {M : List (Arr3_Int × List Int)} (h : L.length = V.length) (hl : L.length ≤ 1000) (hL : within 1000000000000 L) (hV : within 1000000000000 V) (hu : 0 ≤ u) (hue : u ≤ e) (he : e ≤ 1000) : iter (m_tariff_counts_1_h_l2 u e (V, M)) (0, L) = some (M, addV L (e - u) V) := by
  have key := acc_loop (f := m_tariff_counts_1_h_l2 u e (V, M)) (c := e - u) (e := fun L' => (M, L')) h (fun v hv L' hlen hi => by
    unfold m_tariff_counts_1_h_l2
    dsimp only
    have hx := hL _ (List.getElem_mem (show v < L.length by omega))
    have hy := hV _ (List.getElem_mem hv)
    have e1 : idx V (v : Int) = some V[v] := by unfold idx; simp [hv]
    have hm := mul_small (c := e - u) (v := V[v]) (by omega) hy
    have hw : IntKind.i64.wrap ((v : Int) + 1) = ((v + 1 : Nat) : Int) := by rw [wrap_i64_eq (by omega)]; rfl
    rw [decide_eq_true (by omega), cond_true, e1, hi]
    simp only [Option.bind_some]
    rw [wrap_i64_eq (x := e - u) (by omega), Int.mul_comm V[v], wrap_i64_eq (x := (e - u) * V[v]) (by omega), wrap_i64_eq (x := _ + (e - u) * V[v]) (by omega), hw, Int.toNat_natCast])
    (fun L' => by
      unfold m_tariff_counts_1_h_l2
      dsimp only
      rw [decide_eq_false (by omega)]; rfl) V.length 0 L (by omega) (by omega) (by simp)
  exact key
end Go.Pv

namespace Go.Pv
theorem posN_le {m a : Nat} (ha : a < 2 ^ m) : posN m a ≤ m := by
  unfold posN
  split
  · omega
  · rename_i h; have := firstN_lt ha h; omega
theorem addV_unit {L : List Int} {c : Int} {m a : Nat} (hL : L.length = m + 1) (hp : posN m a ≤ m) : addV L c (unitV m a) = L.set (posN m a) ((L[posN m a]'(by omega)) + c) := by
  apply List.ext_getElem?
  intro i
  have hu := unitV_len m a
  by_cases hi : i < L.length
  · rw [addV_get (by omega) hi, List.getElem?_set]
    unfold unitV
    rw [List.getElem_set]
    by_cases h : posN m a = i
    · subst h
      rw [if_pos rfl, if_pos rfl, if_pos hi]; simp
    · rw [if_neg h, if_neg h, List.getElem?_eq_getElem hi]; simp
  · rw [List.getElem?_eq_none (by rw [addV_len (by omega)]; omega), List.getElem?_eq_none (by simp; omega)]
noncomputable def cs1 (t : List Rule) (mark : Nat) : List Int := (m_tariff_cuts (mark : Int) [t]).getD []
theorem cs1_ok {k : Nat} {t : List Rule} (ht : t.length ≤ 24 ∧ ∀ r ∈ t, fineR (k : Int) r = true) {mark : Nat} (hm : mark < k) : m_tariff_cuts (mark : Int) [t] = some (cs1 t mark) ∧ Cuts mark [t] (cs1 t mark) ∧ (cs1 t mark).length ≤ 97 := by
  obtain ⟨cs, h1, h2, h3⟩ := cuts_prog mark [t] (by simp) (fun u hu => by
    simp only [List.mem_cons, List.not_mem_nil, or_false] at hu
    subst hu
    exact ⟨ht.1, fun r hr => (fine_band (ht.2 r hr) hm).1⟩) (fun u hu r hr => by
    simp only [List.mem_cons, List.not_mem_nil, or_false] at hu
    subst hu
    exact (fine_band (ht.2 r hr) hm).2)
  have e : cs1 t mark = cs := by unfold cs1; rw [h1]; rfl
  rw [e]; exact ⟨h1, h2, h3⟩
def behind (t : List Rule) (d mark a : Nat) (x : Int) : List Int := cntV t d (mark + 1) (a &&& fitsN t mark x)
theorem behind_len (t : List Rule) (d mark a : Nat) (x : Int) : (behind t d mark a x).length = t.length + 1 := cntV_len _ _ _ _
theorem pow_le {d : Nat} (h : d ≤ 3) : (1000 : Int) ^ d ≤ 1000000000 := by
  match d, h with
  | 0, _ => decide
  | 1, _ => decide
  | 2, _ => decide
  | 3, _ => decide
theorem piece_add {t : List Rule} {d mark a : Nat} {all : List Int} (hin : CutsIn mark t a all) (hd : d ≤ 3) {u c : Nat} (huc : u ≤ c) (hc : c ≤ 1000) (hno : ∀ e ∈ all, ¬ ((u : Int) < e ∧ e < (c : Int))) :
    sumV t.length (behind t d mark a) c = addV (sumV t.length (behind t d mark a) u) ((c : Int) - (u : Int)) (behind t d mark a (u : Int)) ∧ within 1000000000000 (sumV t.length (behind t d mark a) u) ∧ within 1000000000000 (behind t d mark a (u : Int)) := by
  have hb : ∀ x, within (1000 ^ d) (behind t d mark a x) := fun x => cntV_within t d _ _
  have hp := pow_le hd
  refine ⟨?_, fun x hx => ?_, fun x hx => ?_⟩
  · have := sumV_piece (m := t.length) (g := behind t d mark a) (behind_len t d mark a) u (c - u) (fun x h1 h2 => by
      unfold behind
      rw [fits_piece hin (u := (u : Int)) (x := (x : Int)) (by omega) (by omega) (fun e he ⟨g1, g2⟩ => hno e he ⟨g1, by omega⟩)])
    rw [show u + (c - u) = c by omega] at this
    rw [this]
    congr 1; omega
  · have h1 := sumV_within (behind_len t d mark a) hb u x hx
    have h2 : (u : Int) * 1000 ^ d ≤ 1000 * 1000000000 := Int.mul_le_mul (by omega) hp (by have := hb 0; exact Int.le_of_lt (Int.pow_pos (by decide))) (by decide)
    omega
  · have := hb _ x hx; omega
def MemoV (t : List Rule) (k : Nat) (M : List (Arr3_Int × List Int)) : Prop := ∀ (mark a : Nat) (V : List Int), mark < k → mget (⟨(mark : Int), (a : Int), 0⟩ : Arr3_Int) M = some V → V = cntV t (k - mark) mark a
theorem counts_loop {k : Nat} (hk : k ≤ 4) {t : List Rule} (ht : t.length ≤ 24 ∧ ∀ r ∈ t, fineR (k : Int) r = true) {d mark a : Nat} (hd : k - mark = d + 1) (ha : a < 2 ^ t.length) {self : List Rule → Int → List (Arr3_Int × List Int) → Int → Int → Option (List Int × List (Arr3_Int × List Int))}
    (hself : 0 < d → ∀ M (b : Nat), b < 2 ^ t.length → MemoV t k M → ∃ M', self t (k : Int) M ((mark + 1 : Nat) : Int) (b : Int) = some (cntV t d (mark + 1) b, M') ∧ MemoV t k M') :
    ∀ (n v u : Nat) (M : List (Arr3_Int × List Int)), n = (cs1 t mark).length - v → v ≤ (cs1 t mark).length → MemoV t k M → ((u : Int) :: (cs1 t mark).drop v).Pairwise (· < ·) → (∀ c ∈ cs1 t mark, (u : Int) < c → c ∈ (cs1 t mark).drop v) → u ≤ 1000 →
      ∃ M', iter (m_tariff_counts_1_h_l1 (mark : Int) (a : Int) t (k : Int) self (cs1 t mark)) ((u : Int), (v : Int), M, sumV t.length (behind t d mark a) u) = some (M', sumV t.length (behind t d mark a) 1000) ∧ MemoV t k M'
  | 0, v, u, M, hn, hv, hM, hup, hall, hu => by
    have hvl : v = (cs1 t mark).length := by omega
    subst hvl
    obtain ⟨_, hc, _⟩ := cs1_ok ht (show mark < k by omega)
    have hu2 : u = 1000 := by
      by_cases h : (u : Int) < 1000
      · have := hall 1000 hc.last h
        rw [drop_all _ (Nat.le_refl _)] at this; cases this
      · omega
    subst hu2
    refine ⟨M, iter_done ?_, hM⟩
    unfold m_tariff_counts_1_h_l1
    dsimp only
    rw [decide_eq_false (by omega)]; rfl
  | n + 1, v, u, M, hn, hv, hM, hup, hall, hu => by
    obtain ⟨_, hc, _⟩ := cs1_ok ht (show mark < k by omega)
    have hv2 : v < (cs1 t mark).length := by omega
    have hcv := hc.pos _ (List.getElem_mem hv2)
    obtain ⟨c, hcc⟩ : ∃ c : Nat, (cs1 t mark)[v] = (c : Int) := ⟨((cs1 t mark)[v]).toNat, by omega⟩
    have e1 : idx (cs1 t mark) (v : Int) = some (c : Int) := by rw [← hcc]; unfold idx; simp [hv2]
    have hup0 := hup
    rw [List.drop_eq_getElem_cons hv2, hcc] at hup hall
    rw [List.pairwise_cons] at hup
    have huc : (u : Int) < (c : Int) := hup.1 _ (List.mem_cons_self ..)
    have hup2 := List.pairwise_cons.1 hup.2
    have hin : CutsIn mark t a (cs1 t mark) := cutsIn_of hc (by simp)
    obtain ⟨s1, s2, s3⟩ := piece_add (d := d) (a := a) hin (by omega) (u := u) (c := c) (by omega) (by omega) (fun e he ⟨g1, g2⟩ => by
      rcases List.mem_cons.1 (hall e he g1) with h | h
      · omega
      · have := hup2.1 e h; omega)
    have hlen := sumV_len (m := t.length) (behind_len t d mark a) u
    have hf := fits_eq t mark (u : Int) ht.1 (fun r hr => (fine_band (ht.2 r hr) (by omega)).1)
    have hft := fitsN_lt ht.1 mark (u : Int)
    have ha2 : a < 2 ^ 24 := Nat.lt_of_lt_of_le ha (Nat.pow_le_pow_right (by omega) ht.1)
    have hlt : (a &&& fitsN t mark (u : Int)) < 2 ^ t.length := Nat.lt_of_le_of_lt Nat.and_le_left ha
    have hw : IntKind.i64.wrap ((v : Int) + 1) = ((v + 1 : Nat) : Int) := by rw [wrap_i64_eq (by omega)]; rfl
    have hw2 : IntKind.i64.wrap ((mark : Int) + 1) = ((mark + 1 : Nat) : Int) := by rw [wrap_i64_eq (by omega)]; rfl
    have hstep : ∃ M', m_tariff_counts_1_h_l1 (mark : Int) (a : Int) t (k : Int) self (cs1 t mark) ((u : Int), (v : Int), M, sumV t.length (behind t d mark a) u) = some (.inl ((c : Int), ((v + 1 : Nat) : Int), M', sumV t.length (behind t d mark a) c)) ∧ MemoV t k M' := by
      unfold m_tariff_counts_1_h_l1
      dsimp only
      rw [decide_eq_true (by omega), cond_true, e1]
      simp only [Option.bind_some]
      rw [hf]
      simp only [Option.bind_some]
      rw [and_u32 (by omega) (by omega), hw, hw2]
      by_cases hd0 : 0 < d
      · obtain ⟨M', g1, g2⟩ := hself hd0 M _ hlt hM
        have hacc := acc_prog (u := (u : Int)) (e := (c : Int)) (M := M') (L := sumV t.length (behind t d mark a) u) (V := cntV t d (mark + 1) (a &&& fitsN t mark (u : Int))) (by rw [hlen, cntV_len]) (by omega) s2 s3 (by omega) (by omega) (by omega)
        rw [decide_eq_true (by omega), cond_true, g1]
        simp only [Option.bind_some]
        rw [hacc, s1]
        exact ⟨M', rfl, g2⟩
      · have hd1 : d = 0 := by omega
        subst hd1
        rw [decide_eq_false (by omega), cond_false, setFirst_eq _ (Nat.lt_of_le_of_lt Nat.and_le_left (by omega))]
        simp only [Option.bind_some]
        have hpl := posN_le hlt
        have hset : sumV t.length (behind t 0 mark a) c = (sumV t.length (behind t 0 mark a) u).set (posN t.length (a &&& fitsN t mark (u : Int))) (((sumV t.length (behind t 0 mark a) u)[posN t.length (a &&& fitsN t mark (u : Int))]'(by omega)) + ((c : Int) - (u : Int))) := by
          rw [s1]; exact addV_unit hlen hpl
        have hx := s2 _ (List.getElem_mem (show posN t.length (a &&& fitsN t mark (u : Int)) < (sumV t.length (behind t 0 mark a) u).length by omega))
        refine ⟨M, ?_, hM⟩
        rw [hset]
        unfold posN at hpl hx ⊢
        by_cases hneg : firstN (a &&& fitsN t mark (u : Int)) < 0
        · simp only [if_pos hneg] at hx ⊢
          have e2 : idx (sumV t.length (behind t 0 mark a) u) (t.length : Int) = some ((sumV t.length (behind t 0 mark a) u)[t.length]'(by omega)) := by unfold idx; simp [hlen]
          rw [decide_eq_true hneg, cond_true, e2]
          simp only [Option.bind_some]
          rw [wrap_i64_eq (x := (c : Int) - (u : Int)) (by omega), wrap_i64_eq (by omega), Int.toNat_natCast]
        · simp only [if_neg hneg] at hpl hx ⊢
          have e2 : idx (sumV t.length (behind t 0 mark a) u) (firstN (a &&& fitsN t mark (u : Int))) = some ((sumV t.length (behind t 0 mark a) u)[(firstN (a &&& fitsN t mark (u : Int))).toNat]'(by omega)) := by
            unfold idx
            rw [if_pos (by omega), List.getElem?_eq_getElem]
          rw [decide_eq_false hneg, cond_false, e2]
          simp only [Option.bind_some]
          rw [wrap_i64_eq (x := (c : Int) - (u : Int)) (by omega), wrap_i64_eq (by omega)]
    obtain ⟨M', h1, h2⟩ := hstep
    obtain ⟨M2, h3, h4⟩ := counts_loop hk ht hd ha hself n (v + 1) c M' (by omega) (by omega) h2 hup.2 (fun e he g => by
      rcases List.mem_cons.1 (hall e he (by omega)) with h | h
      · omega
      · exact h) (by omega)
    exact ⟨M2, iter_step h1 h3, h4⟩
end Go.Pv

namespace Go.Pv
theorem cntV_succ (t : List Rule) (d mark a : Nat) : cntV t (d + 1) mark a = sumV t.length (behind t d mark a) 1000 := by
  rw [cntV]; rfl
theorem counts_body {k : Nat} (hk : k ≤ 4) {t : List Rule} (ht : t.length ≤ 24 ∧ ∀ r ∈ t, fineR (k : Int) r = true) {d mark a : Nat} (hd : k - mark = d + 1) (ha : a < 2 ^ t.length) {self : List Rule → Int → List (Arr3_Int × List Int) → Int → Int → Option (List Int × List (Arr3_Int × List Int))}
    (hself : 0 < d → ∀ M (b : Nat), b < 2 ^ t.length → MemoV t k M → ∃ M', self t (k : Int) M ((mark + 1 : Nat) : Int) (b : Int) = some (cntV t d (mark + 1) b, M') ∧ MemoV t k M') {M : List (Arr3_Int × List Int)} (hM : MemoV t k M) {W : List Int} (hW : cntV t (d + 1) mark a = W) :
    ∃ M', m_tariff_counts_1_h_b self t (k : Int) M (mark : Int) (a : Int) = some (W, M') ∧ MemoV t k M' := by
  have ha2 : a < 2 ^ 24 := Nat.lt_of_lt_of_le ha (Nat.pow_le_pow_right (by omega) ht.1)
  unfold m_tariff_counts_1_h_b
  rw [wrap_i64_eq (x := (a : Int)) (by omega), wrap_i64_eq (x := (t.length : Int) + 1) (by omega)]
  cases hg : mget (⟨(mark : Int), (a : Int), 0⟩ : Arr3_Int) M with
  | some V =>
    have := hM mark a V (by omega) hg
    rw [hd, hW] at this
    refine ⟨M, ?_, hM⟩
    simp only [Option.isSome_some, cond_true, Option.getD_some, this]
  | none =>
    obtain ⟨c1, c2, c3⟩ := cs1_ok ht (show mark < k by omega)
    obtain ⟨M', h1, h2⟩ := counts_loop hk ht hd ha hself (cs1 t mark).length 0 0 M (by omega) (by omega) hM (List.pairwise_cons.2 ⟨fun c h => (c2.pos c (by simpa using h)).1, by simpa using c2.up⟩) (fun c h _ => by simpa using h) (by omega)
    have hW2 : sumV t.length (behind t d mark a) 1000 = W := by rw [← cntV_succ]; exact hW
    have h0 : sumV t.length (behind t d mark a) 0 = List.replicate (t.length + 1) (0 : Int) := by rw [sumV]
    rw [h0] at h1
    generalize sumV t.length (behind t d mark a) 1000 = W2 at h1 hW2
    rw [hW2] at h1
    have h1 : iter (m_tariff_counts_1_h_l1 (mark : Int) (a : Int) t (k : Int) self (cs1 t mark)) (0, 0, M, List.replicate (((t.length : Int) + 1)).toNat (0 : Int)) = some (M', W) := by
      have e : (((t.length : Int) + 1)).toNat = t.length + 1 := by omega
      rw [e]; exact h1
    rw [Option.isSome_none, cond_false]
    unfold guardO
    rw [if_pos ⟨by omega, by omega⟩, c1, Option.bind_some, h1]
    refine ⟨mset (⟨(mark : Int), (a : Int), 0⟩ : Arr3_Int) W M', by rw [Option.bind_some, Option.bind_some], fun mark' a' V hm' hg' => ?_⟩
    rw [mget_mset] at hg'
    split at hg'
    · rename_i heq
      simp only [Arr3_Int.mk.injEq] at heq
      obtain ⟨e1, e2, _⟩ := heq
      have e1 : mark' = mark := by omega
      have e2 : a' = a := by omega
      subst e1 e2
      simp only [Option.some.injEq] at hg'
      rw [← hg', hd, hW]
    · exact h2 mark' a' V hm' hg'
theorem counts_walk {k : Nat} (hk : k ≤ 4) {t : List Rule} (ht : t.length ≤ 24 ∧ ∀ r ∈ t, fineR (k : Int) r = true) (n : Nat) : ∀ (d : Nat) (M : List (Arr3_Int × List Int)) (mark a : Nat), k - mark = d + 1 → d < n → a < 2 ^ t.length → MemoV t k M →
    ∃ M', m_tariff_counts_1_h n t (k : Int) M (mark : Int) (a : Int) = some (cntV t (d + 1) mark a, M') ∧ MemoV t k M' := by
  induction n with
  | zero => intro d M mark a hd hn; omega
  | succ n ih =>
    intro d M mark a hd hn ha hM
    have e : m_tariff_counts_1_h (n + 1) = m_tariff_counts_1_h_b (m_tariff_counts_1_h n) := rfl
    rw [e]
    refine counts_body hk ht hd ha (fun hd0 M b hb hM => ?_) hM rfl
    have := ih (d - 1) M (mark + 1) b (by omega) (by omega) hb hM
    rw [show d - 1 + 1 = d by omega] at this
    exact this
theorem counts_prog {k : Nat} (hk : k ≤ 4) (hk1 : 1 ≤ k) {t : List Rule} (ht : t.length ≤ 24 ∧ ∀ r ∈ t, fineR (k : Int) r = true) : m_tariff_counts (k : Int) t = some (cntV t k 0 (allN t)) := by
  unfold m_tariff_counts
  obtain ⟨d, rfl⟩ : ∃ d, k = d + 1 := ⟨k - 1, by omega⟩
  obtain ⟨M', h1, _⟩ := counts_walk hk ht 100 d [] 0 (allN t) (by omega) (by omega) (allN_lt t) (fun mark a V _ h => by cases h)
  have hlen := cntV_len t (d + 1) 0 (allN t)
  generalize cntV t (d + 1) 0 (allN t) = W at h1 hlen
  have h1 : m_tariff_counts_1_h 100 t ((d + 1 : Nat) : Int) [] 0 (allN t : Int) = some (W, M') := h1
  rw [all_prog t ht.1]
  simp only [Option.bind_some]
  rw [h1]
  simp only [Option.bind_some]
  unfold cloneO
  rw [if_pos (by omega)]
  rfl
end Go.Pv

namespace Go.Pv
end Go.Pv

namespace Go.Pv
structure SrchOk (t : List Rule) (k : Nat) (o : Search) : Prop where
  ek : o.k = (k : Int)
  et : o.t = t
  tab : TabOk o.seen
  many : o.many.length = o.seen.keys.length
  memo : ∀ (i mark a : Nat) (V : List Int), o.seen.keys[i]? = some (⟨(mark : Int), (a : Int), 0⟩ : Arr3_Int) → o.many[i]? = some V → mark < k → V = cntV t (k - mark) mark a
end Go.Pv

namespace Go.Pv
end Go.Pv

namespace Go.Pv
end Go.Pv

namespace Go.Pv
end Go.Pv

namespace Go.Pv
def ent (l : List Int) (i : Nat) : Int := (l[i]?).getD 0
theorem ent_nn {B : Int} {l : List Int} (h : within B l) (i : Nat) : 0 ≤ ent l i := by
  unfold ent
  cases hi : l[i]? with
  | none => simp
  | some x => exact (h x (List.mem_of_getElem? hi)).1
theorem ent_at {l : List Int} {i : Nat} (h : i < l.length) : ent l i = l[i] := by
  unfold ent; rw [List.getElem?_eq_getElem h]; rfl
theorem ent_add {l v : List Int} {c : Int} (h : l.length = v.length) (i : Nat) : ent (addV l c v) i = ent l i + c * ent v i := by
  by_cases hi : i < l.length
  · unfold ent
    rw [addV_get h hi, List.getElem?_eq_getElem hi, List.getElem?_eq_getElem (by omega)]; rfl
  · unfold ent
    rw [List.getElem?_eq_none (by rw [addV_len h]; omega), List.getElem?_eq_none (by omega), List.getElem?_eq_none (by omega)]; simp
theorem ent_zero (m i : Nat) : ent (List.replicate m (0 : Int)) i = 0 := by
  unfold ent
  rw [List.getElem?_replicate]; split <;> rfl
theorem sumV_pos {m : Nat} {g : Int → List Int} {B : Int} (hg : ∀ x, (g x).length = m + 1) (hb : ∀ x, within B (g x)) (i : Nat) : ∀ n : Nat, 0 < ent (sumV m g n) i ↔ ∃ x : Nat, x < n ∧ 0 < ent (g (x : Int)) i
  | 0 => by
    rw [sumV, ent_zero]
    constructor
    · intro h; omega
    · rintro ⟨x, h, _⟩; omega
  | n + 1 => by
    rw [sumV, ent_add (by rw [sumV_len hg, hg])]
    have ih := sumV_pos hg hb i n
    have h1 := ent_nn (sumV_within hg hb n) i
    have h2 := ent_nn (hb (n : Int)) i
    constructor
    · intro h
      by_cases h3 : 0 < ent (sumV m g n) i
      · obtain ⟨x, hx, hy⟩ := ih.1 h3
        exact ⟨x, by omega, hy⟩
      · exact ⟨n, by omega, by omega⟩
    · rintro ⟨x, hx, hy⟩
      by_cases h3 : x = n
      · subst h3; omega
      · have := ih.2 ⟨x, by omega, hy⟩; omega
theorem ent_unit {m a i : Nat} (hp : posN m a ≤ m) : 0 < ent (unitV m a) i ↔ posN m a = i := by
  unfold unitV ent
  rw [List.getElem?_set]
  by_cases h : posN m a = i
  · rw [if_pos h, if_pos (by rw [List.length_replicate]; omega)]; simp [h]
  · rw [if_neg h]
    constructor
    · intro h2
      have := ent_zero (m + 1) i
      unfold ent at this; omega
    · intro h2; exact absurd h2 h
theorem cntV_pos (t : List Rule) (i : Nat) : ∀ (d mark a : Nat), a < 2 ^ t.length → (0 < ent (cntV t d mark a) i ↔ ∃ ys, Pts d ys ∧ posN t.length (endS t mark a ys) = i)
  | 0, mark, a, ha => by
    rw [cntV, ent_unit (posN_le ha)]
    constructor
    · intro h; exact ⟨[], ⟨rfl, fun x hx => by cases hx⟩, h⟩
    · rintro ⟨ys, hys, h⟩
      have : ys = [] := List.length_eq_zero_iff.1 hys.1
      subst this; exact h
  | d + 1, mark, a, ha => by
    rw [cntV_succ, sumV_pos (behind_len t d mark a) (fun x => cntV_within t d _ _)]
    have ih : ∀ x : Int, (0 < ent (behind t d mark a x) i ↔ ∃ ys, Pts d ys ∧ posN t.length (endS t (mark + 1) (a &&& fitsN t mark x) ys) = i) := fun x => cntV_pos t i d (mark + 1) _ (Nat.lt_of_le_of_lt Nat.and_le_left ha)
    constructor
    · rintro ⟨x, hx, h⟩
      obtain ⟨ys, hys, h2⟩ := (ih _).1 h
      refine ⟨(x : Int) :: ys, ⟨by simp [hys.1], fun y hy => ?_⟩, h2⟩
      rcases List.mem_cons.1 hy with rfl | hy
      · omega
      · exact hys.2 y hy
    · rintro ⟨ys, hys, h⟩
      cases ys with
      | nil => have := hys.1; simp at this
      | cons y ys =>
        have hy := hys.2 y (List.mem_cons_self ..)
        refine ⟨y.toNat, by omega, ?_⟩
        rw [show ((y.toNat : Nat) : Int) = y by omega]
        exact (ih y).2 ⟨ys, ⟨by have := hys.1; simpa using this, fun x hx => hys.2 x (List.mem_cons_of_mem _ hx)⟩, h⟩
end Go.Pv

namespace Go.Pv
def fitsAt (r : Rule) : Nat → List Int → Bool
  | _, [] => true
  | mark, y :: ys => inB mark y r && fitsAt r (mark + 1) ys
theorem endS_bit {t : List Rule} : ∀ (ys : List Int) (mark a : Nat), a < 2 ^ t.length → ∀ i, (endS t mark a ys).testBit i = (a.testBit i && ((t[i]?).map fun r => fitsAt r mark ys).getD false)
  | [], mark, a, ha, i => by
    simp only [endS, fitsAt]
    cases hi : t[i]? with
    | some r => simp
    | none =>
      rw [List.getElem?_eq_none_iff] at hi
      have : a < 2 ^ i := Nat.lt_of_lt_of_le ha (Nat.pow_le_pow_right (by omega) hi)
      rw [Nat.testBit_lt_two_pow this]; rfl
  | y :: ys, mark, a, ha, i => by
    rw [endS, endS_bit ys (mark + 1) _ (Nat.lt_of_le_of_lt Nat.and_le_left ha) i, Nat.testBit_and]
    unfold fitsN
    rw [setOf_bit]
    cases hi : t[i]? with
    | none => simp
    | some r => simp [hi, fitsAt, Bool.and_assoc]
theorem inB_band {r : Rule} {mark : Nat} (h : mark < r.Bands.length) (x : Int) : inB mark x r = inBand r.Bands[mark] x := by
  have e : bandAt r mark = r.Bands[mark] := by
    have h1 := idx_band h
    have h2 : idx r.Bands (mark : Int) = some r.Bands[mark] := by unfold idx; simp [h]
    rw [h2] at h1; simpa using h1.symm
  unfold inB inBand
  rw [e]
  have e1 : decide (r.Bands[mark].Lo ≤ x) = !(decide (x < r.Bands[mark].Lo)) := by
    by_cases h : r.Bands[mark].Lo ≤ x
    · rw [decide_eq_true h, decide_eq_false (by omega)]; rfl
    · rw [decide_eq_false h, decide_eq_true (by omega)]; rfl
  have e2 : decide (x < r.Bands[mark].Hi) = !(decide (r.Bands[mark].Hi ≤ x)) := by
    by_cases h : x < r.Bands[mark].Hi
    · rw [decide_eq_true h, decide_eq_false (by omega)]; rfl
    · rw [decide_eq_false h, decide_eq_true (by omega)]; rfl
  rw [e1, e2]
theorem fitsAt_eq (r : Rule) : ∀ (ys : List Int) (mark : Nat), mark + ys.length = r.Bands.length → fitsAt r mark ys = fitsL (r.Bands.drop mark) ys
  | [], mark, h => by
    cases r.Bands.drop mark <;> rfl
  | y :: ys, mark, h => by
    simp only [List.length_cons] at h
    rw [List.drop_eq_getElem_cons (by omega)]
    simp only [fitsAt, fitsL]
    rw [inB_band (by omega) y, fitsAt_eq r ys (mark + 1) (by omega)]
theorem firstFrom_find {p : Rule → Bool} {A : Nat} : ∀ (n i : Nat) (l : List Rule), (∀ j, A.testBit (i + j) = ((l[j]?).map p).getD false) → l.length ≤ n → firstFrom A i n = (l.findIdx? p).map (i + ·)
  | 0, i, l, _, hl => by
    have : l = [] := List.length_eq_zero_iff.1 (by omega)
    subst this; rfl
  | n + 1, i, [], h, _ => by
    have h0 := h 0
    simp only [Nat.add_zero, List.getElem?_nil, Option.map_none, Option.getD_none] at h0
    simp only [firstFrom, h0, cond_false]
    rw [firstFrom_find (p := p) n (i + 1) [] (fun j => by have := h (j + 1); rw [show i + (j + 1) = i + 1 + j by omega] at this; rw [this]; simp) (by simp)]
    rfl
  | n + 1, i, x :: l, h, hl => by
    have h0 := h 0
    simp only [Nat.add_zero, List.getElem?_cons_zero, Option.map_some, Option.getD_some] at h0
    simp only [firstFrom, h0, List.findIdx?_cons]
    cases p x with
    | true => rfl
    | false =>
      rw [cond_false, firstFrom_find (p := p) n (i + 1) l (fun j => by have := h (j + 1); rw [show i + (j + 1) = i + 1 + j by omega] at this; rw [this, List.getElem?_cons_succ]) (by simp only [List.length_cons] at hl; omega)]
      cases l.findIdx? p with
      | none => rfl
      | some j => simp; omega
theorem allN_bit (t : List Rule) (i : Nat) : (allN t).testBit i = decide (i < t.length) := by
  unfold allN; rw [Nat.testBit_two_pow_sub_one]
theorem decide_first {k : Nat} {t : List Rule} (ht : t.length ≤ 24 ∧ ∀ r ∈ t, fineR (k : Int) r = true) {xs : List Int} (hx : xs.length = k) : firstN (endS t 0 (allN t) xs) = decideS t xs := by
  have h : ∀ j, (endS t 0 (allN t) xs).testBit (0 + j) = ((t[j]?).map fun r => fitsL r.Bands xs).getD false := fun j => by
    rw [Nat.zero_add, endS_bit xs 0 (allN t) (allN_lt t) j, allN_bit]
    cases hj : t[j]? with
    | none => simp
    | some r =>
      obtain ⟨hlt, e⟩ := List.getElem?_eq_some_iff.1 hj
      have hm : r ∈ t := by rw [← e]; exact List.getElem_mem hlt
      have hl := fine_len (ht.2 r hm)
      simp only [Option.map_some, Option.getD_some, decide_eq_true hlt, Bool.true_and]
      rw [fitsAt_eq r xs 0 (by omega), List.drop_zero]
  unfold firstN decideS
  rw [firstFrom_find 24 0 t h ht.1]
  cases t.findIdx? (fun r => fitsL r.Bands xs) with
  | none => rfl
  | some j => simp
end Go.Pv

namespace Go.Pv
theorem cnt_idx (t : List Rule) (d mark a : Nat) : idx (cntV t d mark a) (t.length : Int) = some (ent (cntV t d mark a) t.length) := by
  have := cntV_len t d mark a
  unfold idx ent
  rw [if_pos (Int.natCast_nonneg _), Int.toNat_natCast, List.getElem?_eq_getElem (by omega)]; rfl
end Go.Pv

namespace Go.Pv
def Small (t : List Rule) : Prop := t.length ≤ 40 ∧ ∀ r ∈ t, r.Bands.length ≤ 20
theorem rules_bands (t : List Rule) {i : Nat} (hi : i < t.length) (hb : t[i].Bands.length ≤ 20) : ∀ (n j : Nat), n = t[i].Bands.length - j → iter (m_cocketlaw02_rules_l3 t t (i : Int)) (j : Int) = some (.inl ())
  | 0, j, hn => by
    have h2 : idx t (i : Int) = some t[i] := by unfold idx; simp [hi]
    refine iter_done ?_
    unfold m_cocketlaw02_rules_l3
    rw [h2]
    simp only [Option.bind_some]
    rw [decide_eq_false (by omega)]; rfl
  | n + 1, j, hn => by
    have h2 : idx t (i : Int) = some t[i] := by unfold idx; simp [hi]
    have hj : j < t[i].Bands.length := by omega
    have h3 : idx t[i].Bands (j : Int) = some t[i].Bands[j] := by unfold idx; simp [hj]
    have ih := rules_bands t hi hb n (j + 1) (by omega)
    refine iter_step ?_ ih
    unfold m_cocketlaw02_rules_l3
    rw [h2]
    simp only [Option.bind_some]
    rw [decide_eq_true (by omega), cond_true, h3]
    simp only [Option.bind_some, beq_self_eq_true, Bool.and_self, Bool.not_true, cond_false]
    rw [wrap_i64_eq (by omega)]; rfl
theorem rules_loop (t : List Rule) (hs : Small t) : ∀ (n i : Nat), n = t.length - i → iter (m_cocketlaw02_rules_l1 t t) (i : Int) = some (.inl ())
  | 0, i, hn => by
    refine iter_done ?_
    unfold m_cocketlaw02_rules_l1
    rw [decide_eq_false (by omega)]; rfl
  | n + 1, i, hn => by
    have hi : i < t.length := by omega
    have h2 : idx t (i : Int) = some t[i] := by unfold idx; simp [hi]
    have hb := hs.2 t[i] (List.getElem_mem hi)
    have hs1 := hs.1
    have ih := rules_loop t hs n (i + 1) (by omega)
    have h3 := rules_bands t hi hb t[i].Bands.length 0 (by omega)
    rw [show ((0 : Nat) : Int) = 0 from rfl] at h3
    refine iter_step ?_ ih
    unfold m_cocketlaw02_rules_l1
    rw [decide_eq_true (by omega), cond_true, h2]
    simp only [Option.bind_some]
    simp only [not_true_eq_false, decide_false, cond_false]
    rw [h3]
    simp only [Option.bind_some]
    rw [wrap_i64_eq (by omega)]; rfl
theorem rules_self {t : List Rule} (hs : Small t) : m_cocketlaw02_rules t t = some true := by
  unfold m_cocketlaw02_rules
  have h := rules_loop t hs t.length 0 (by omega)
  rw [show ((0 : Nat) : Int) = 0 from rfl] at h
  simp only [not_true_eq_false, decide_false, cond_false]
  rw [h]; rfl
end Go.Pv

namespace Go.Pv
def deadL : Int → List Int → List Int
  | _, [] => []
  | v, x :: l => if x = 0 then v :: deadL (v + 1) l else deadL (v + 1) l
theorem dead_prog_loop (t : List Rule) (W : List Int) (hW : (W.take (((t.length : Int) : Int) - 0).toNat).length ≤ 24) : ∀ (n v : Nat) (L : List Int), n = (W.take (((t.length : Int) : Int) - 0).toNat).length - v → L.length ≤ v → iter (m_tariff_Dead_l1 t W) ((v : Int), L) = some (L ++ deadL (v : Int) ((W.take (((t.length : Int) : Int) - 0).toNat).drop v))
  | 0, v, L, hn, hL => by
    rw [drop_all _ (by omega)]
    refine iter_done ?_
    unfold m_tariff_Dead_l1
    dsimp only
    rw [decide_eq_false (by omega)]; simp [deadL]
  | n + 1, v, L, hn, hL => by
    have hv : v < (W.take (((t.length : Int) : Int) - 0).toNat).length := by omega
    have ih := fun L hL => dead_prog_loop t W hW n (v + 1) L (by omega) hL
    have hf : m_tariff_Dead_l1 t W ((v : Int), L) = some (.inl (((v + 1 : Nat) : Int), if (W.take (((t.length : Int) : Int) - 0).toNat)[v] = 0 then L ++ [(v : Int)] else L)) := by
      unfold m_tariff_Dead_l1
      dsimp only
      generalize W.take (((t.length : Int) : Int) - 0).toNat = V at hv hW
      have e1 : idx V (v : Int) = some V[v] := by unfold idx; simp [hv]
      have hw : IntKind.i64.wrap ((v : Int) + 1) = ((v + 1 : Nat) : Int) := by rw [wrap_i64_eq (by omega)]; rfl
      rw [decide_eq_true (by omega), cond_true, e1, Option.bind_some, hw]
      by_cases h : V[v] = 0
      · rw [decide_eq_true h, cond_true, guardO_pos (by simp; omega), if_pos h]; rfl
      · rw [decide_eq_false h, if_neg h]; rfl
    generalize W.take (((t.length : Int) : Int) - 0).toNat = V at hv hf ih hW ⊢
    rw [List.drop_eq_getElem_cons hv, deadL]
    refine iter_step hf ?_
    have e : ((v + 1 : Nat) : Int) = (v : Int) + 1 := rfl
    by_cases h : V[v] = 0
    · rw [if_pos h, if_pos h, ih _ (by simp; omega), List.append_assoc, e]; rfl
    · rw [if_neg h, if_neg h, ih _ (by omega), e]
theorem Counts_val {k : Nat} {t : List Rule} (h : chk (k : Int) [t] = 0) : m_tariff_Counts (k : Int) t = some ((cntV t k 0 (allN t)).take t.length, ent (cntV t k 0 (allN t)) t.length, 0) ∧ m_tariff_Dead (k : Int) t = some (deadL 0 ((cntV t k 0 (allN t)).take t.length), 0) := by
  obtain ⟨k1, k2, t1, t2⟩ := chk_good h
  have hk : k ≤ 4 := by omega
  have hp := counts_prog hk (by omega) ⟨t1, t2⟩
  have hlen := cntV_len t k 0 (allN t)
  have hci := cnt_idx t k 0 (allN t)
  unfold m_tariff_Counts m_tariff_Dead
  rw [checked_eq (k : Int) [t] (by simp), h, hp]
  simp only [Option.bind_some, decide_not, decide_true, Bool.not_true, cond_false]
  generalize cntV t k 0 (allN t) = W at hp hlen hci
  have e : (((t.length : Int) : Int) - 0).toNat = t.length := by omega
  have hl2 : (W.take t.length).length ≤ 24 := by rw [List.length_take]; omega
  have hd := dead_prog_loop t W (by rw [e]; exact hl2) (W.take (((t.length : Int) : Int) - 0).toNat).length 0 [] (by omega) (by simp)
  have hd : iter (m_tariff_Dead_l1 t W) (0, []) = some ([] ++ deadL 0 ((W.take (((t.length : Int) : Int) - 0).toNat).drop 0)) := hd
  rw [e, List.nil_append, List.drop_zero] at hd
  rw [e]
  have hgd : (0 : Nat) ≤ 0 ∧ 0 ≤ (t.length : Int) ∧ (t.length : Int) ≤ (W.length : Int) := ⟨by omega, by omega, by omega⟩
  unfold guardO
  rw [if_pos hgd, hci, if_pos hgd, hd]
  exact ⟨rfl, rfl⟩
end Go.Pv

namespace Go.Pv
theorem Differ_val {k : Nat} {s t : List Rule} (hs : chk (k : Int) [s] = 0) (ht : chk (k : Int) [t] = 0) : ∃ xs f, m_tariff_Differ (k : Int) s t = some (cond f (xs, 0) ([], 10)) ∧ Ans s t (diffP s t) 0 k (allN s) (allN t) f xs := by
  unfold m_tariff_Differ
  rw [checked_eq (k : Int) [s, t] (by simp), chk_two, if_pos hs, ht]
  obtain ⟨k1, k2, s1, s2⟩ := chk_good hs
  obtain ⟨_, _, t1, t2⟩ := chk_good ht
  obtain ⟨xs, f, e1, e2⟩ := differ_prog (k := k) (by omega) ⟨s1, s2⟩ ⟨t1, t2⟩
  refine ⟨xs, f, ?_, e2⟩
  simp only [Option.bind_some, decide_not, decide_true, Bool.not_true, cond_false, e1]
  unfold m_tariff_found
  cases f <;> rfl
end Go.Pv

namespace Go.Pv
def codeL (t : List Rule) (xs : List Int) : Int := match t.find? (fun r => fitsL r.Bands xs) with | some r => r.Code | none => -1
def sameT (k : Nat) (s t : List Rule) : Prop := ∀ xs, Pts k xs → codeL s xs = codeL t xs
theorem find_idx {p : Rule → Bool} : ∀ (t : List Rule), (match t.findIdx? p with | some j => t[j]? | none => none) = t.find? p
  | [] => rfl
  | x :: t => by
    rw [List.findIdx?_cons, List.find?_cons]
    cases p x with
    | true => rfl
    | false =>
      have ih := find_idx (p := p) t
      cases h : t.findIdx? p with
      | none => rw [h] at ih; simpa using ih
      | some j => rw [h] at ih; simpa using ih
theorem codeN_L {k : Nat} {t : List Rule} (ht : t.length ≤ 24 ∧ ∀ r ∈ t, fineR (k : Int) r = true) {xs : List Int} (hx : xs.length = k) : codeN t (endS t 0 (allN t) xs) = codeL t xs := by
  have h := find_idx (p := fun r => fitsL r.Bands xs) t
  unfold codeN codeL
  rw [decide_first ht hx]
  unfold decideS
  cases hf : t.findIdx? (fun r => fitsL r.Bands xs) with
  | none => rw [hf] at h; simp only at h; rw [← h]; rfl
  | some j =>
    rw [hf] at h
    simp only at h
    obtain ⟨hj, _⟩ := List.findIdx?_eq_some_iff_getElem.1 hf
    rw [← h, List.getElem?_eq_getElem hj]
    have : ¬ ((j : Int) < 0) := by omega
    simp only [if_neg this, Int.toNat_natCast]
    rw [List.getD, List.getElem?_eq_getElem hj]; rfl
theorem ans_same {k : Nat} {s t : List Rule} (hs : s.length ≤ 24 ∧ ∀ r ∈ s, fineR (k : Int) r = true) (ht : t.length ≤ 24 ∧ ∀ r ∈ t, fineR (k : Int) r = true) {f : Bool} {xs : List Int} (h : Ans s t (diffP s t) 0 k (allN s) (allN t) f xs) : (f = false ↔ sameT k s t) ∧ (f = true → Pts k xs ∧ codeL s xs ≠ codeL t xs) := by
  have key : ∀ ys, Pts k ys → (diffP s t (endS s 0 (allN s) ys) (endS t 0 (allN t) ys) = true ↔ codeL s ys ≠ codeL t ys) := fun ys hy => by
    unfold diffP
    rw [codeN_L hs hy.1, codeN_L ht hy.1, decide_eq_true_eq]
  refine ⟨⟨fun hf ys hy => ?_, fun hsame => ?_⟩, fun hf => ?_⟩
  · refine Classical.byContradiction fun hne => ?_
    have := (h.miss hf).2 ys hy
    rw [(key ys hy).2 hne] at this; cases this
  · cases hf : f with
    | false => rfl
    | true =>
      obtain ⟨h1, h2, _⟩ := h.hit hf
      exact absurd (hsame xs h1) ((key xs h1).1 h2)
  · obtain ⟨h1, h2, _⟩ := h.hit hf
    exact ⟨h1, (key xs h1).1 h2⟩
theorem differ_iff {k : Nat} (hk : k ≤ 4) {s t : List Rule} (hs : s.length ≤ 24 ∧ ∀ r ∈ s, fineR (k : Int) r = true) (ht : t.length ≤ 24 ∧ ∀ r ∈ t, fineR (k : Int) r = true) : ∃ xs f, m_tariff_differ (k : Int) s t = some (xs, f) ∧ (f = false ↔ sameT k s t) := by
  obtain ⟨xs, f, h1, h2⟩ := differ_prog hk hs ht
  exact ⟨xs, f, h1, (ans_same hs ht h2).1⟩
theorem chk_of {k : Int} {t : List Rule} (h1 : 1 ≤ k) (h2 : k ≤ 4) (h3 : t.length ≤ 24) (h4 : ∀ r ∈ t, fineR k r = true) : chk k [t] = 0 := by
  unfold chk
  rw [if_pos ⟨h1, h2⟩]
  have e1 : decide (24 < (t.length : Int)) = false := decide_eq_false (by omega)
  have e2 : (t.any fun r => !fineR k r) = false := by
    rw [List.any_eq_false]
    intro r hr
    rw [h4 r hr]; simp
  simp [chkL, chk1, e1, e2]
theorem Differ_iff {k : Nat} {s t : List Rule} (hs : chk (k : Int) [s] = 0) (ht : chk (k : Int) [t] = 0) : ∃ xs f, m_tariff_Differ (k : Int) s t = some (cond f (xs, 0) ([], 10)) ∧ (f = false ↔ sameT k s t) ∧ (f = true → Pts k xs ∧ codeL s xs ≠ codeL t xs) := by
  obtain ⟨xs, f, h1, h2⟩ := Differ_val hs ht
  obtain ⟨_, _, s1, s2⟩ := chk_good hs
  obtain ⟨_, _, t1, t2⟩ := chk_good ht
  exact ⟨xs, f, h1, ans_same ⟨s1, s2⟩ ⟨t1, t2⟩ h2⟩
end Go.Pv

namespace Go.Pv
theorem find_erase {p : Rule → Bool} : ∀ (l : List Rule) (j : Nat) (hj : j < l.length), p l[j] = false → (l.eraseIdx j).find? p = l.find? p
  | [], j, hj, _ => by simp at hj
  | x :: l, 0, _, h => by simp only [List.getElem_cons_zero] at h; simp [h]
  | x :: l, j + 1, hj, h => by
    simp only [List.eraseIdx_cons_succ, List.find?_cons]
    rw [find_erase l j (by simpa using hj) (by simpa using h)]
theorem find_erase2 {p : Rule → Bool} : ∀ (l : List Rule) (j i : Nat) (hj : j < l.length) (hi : i < j), p (l[i]'(by omega)) = true → (l.eraseIdx j).find? p = l.find? p
  | [], j, i, hj, _, _ => by simp at hj
  | x :: l, j + 1, 0, hj, hi, h => by
    simp only [List.getElem_cons_zero] at h
    simp only [List.eraseIdx_cons_succ, List.find?_cons, h]
  | x :: l, j + 1, i + 1, hj, hi, h => by
    simp only [List.eraseIdx_cons_succ, List.find?_cons]
    rw [find_erase2 l j i (by simpa using hj) (by omega) (by simpa using h)]
theorem codeL_erase {l : List Rule} {j : Nat} (hj : j < l.length) {xs : List Int} (h : fitsL l[j].Bands xs = false) : codeL (l.eraseIdx j) xs = codeL l xs := by
  unfold codeL; rw [find_erase l j hj h]
theorem codeL_ne {l : List Rule} {j : Nat} (hj : j < l.length) {xs : List Int} (h : codeL l xs ≠ codeL (l.eraseIdx j) xs) : fitsL l[j].Bands xs = true ∧ ∀ i (hi : i < j), fitsL (l[i]'(by omega)).Bands xs = false := by
  refine ⟨?_, fun i hi => ?_⟩
  · cases hf : fitsL l[j].Bands xs with
    | true => rfl
    | false => exact absurd (codeL_erase hj hf).symm h
  · cases hf : fitsL (l[i]'(by omega)).Bands xs with
    | false => rfl
    | true =>
      refine absurd ?_ h
      unfold codeL
      rw [find_erase2 l j i hj hi hf]
theorem erase_comm : ∀ (l : List Rule) (i j : Nat), i ≤ j → (l.eraseIdx i).eraseIdx j = (l.eraseIdx (j + 1)).eraseIdx i
  | [], i, j, _ => by simp
  | x :: l, 0, j, _ => by simp
  | x :: l, i + 1, j + 1, h => by
    simp only [List.eraseIdx_cons_succ]
    rw [erase_comm l i j (by omega)]
def irrFrom (k i : Nat) (l : List Rule) : Prop := ∀ j, i ≤ j → j < l.length → ¬ sameT k l (l.eraseIdx j)
theorem irr_step {k i : Nat} {l : List Rule} (hi : i < l.length) (h : irrFrom k (i + 1) l) : irrFrom k i (l.eraseIdx i) := by
  intro j hij hj hs
  rw [List.length_eraseIdx_of_lt hi] at hj
  refine h (j + 1) (by omega) (by omega) fun xs hx => ?_
  refine Classical.byContradiction fun hne => ?_
  obtain ⟨h1, h2⟩ := codeL_ne (by omega) hne
  have h3 := h2 i (by omega)
  have h4 := hs xs hx
  rw [erase_comm l i j hij, codeL_erase hi h3] at h4
  have h5 : (l.eraseIdx (j + 1))[i]'(by rw [List.length_eraseIdx_of_lt (by omega)]; omega) = l[i] := List.getElem_eraseIdx_of_lt _ (by omega)
  rw [codeL_erase (by rw [List.length_eraseIdx_of_lt (by omega)]; omega) (by rw [h5]; exact h3)] at h4
  exact hne h4
theorem sameT_refl (k : Nat) (l : List Rule) : sameT k l l := fun _ _ => rfl
theorem sameT_symm {k : Nat} {s t : List Rule} (h : sameT k s t) : sameT k t s := fun xs hx => (h xs hx).symm
theorem sameT_trans {k : Nat} {s t u : List Rule} (h : sameT k s t) (h' : sameT k t u) : sameT k s u := fun xs hx => (h xs hx).trans (h' xs hx)
def GoodL (k : Nat) (l : List Rule) : Prop := l.length ≤ 24 ∧ ∀ r ∈ l, fineR (k : Int) r = true
theorem good_erase {k : Nat} {l : List Rule} (h : GoodL k l) (i : Nat) : GoodL k (l.eraseIdx i) :=
  ⟨Nat.le_trans (List.eraseIdx_sublist l i).length_le h.1, fun r hr => h.2 r ((List.eraseIdx_sublist l i).subset hr)⟩
theorem del_eq {l : List Rule} {i : Nat} (hi : i < l.length) : delOk l (i : Int) ((i + 1 : Nat) : Int) = decide (l.length ≤ 4294967296) ∧ List.take (delN l (i : Int) ((i + 1 : Nat) : Int)) (delP l (i : Int) ((i + 1 : Nat) : Int)) = l.eraseIdx i := by
  refine ⟨?_, ?_⟩
  · unfold delOk
    rw [decide_eq_decide]; omega
  · unfold delN delP
    rw [show (((i + 1 : Nat) : Int) - (i : Int)).toNat = 1 by omega, Int.toNat_natCast, Int.toNat_natCast, List.take_append_of_le_length (by simp; omega), List.take_of_length_le (by simp; omega), List.eraseIdx_eq_take_drop_succ]
theorem lean_step {k : Nat} (hk : k ≤ 4) {l : List Rule} (hl : GoodL k l) {i : Nat} (hi : i < l.length) : ∃ l', m_tariff_Lean_l2 (k : Int) (l, (i : Int)) = some (.inl (l', (i : Int) - 1)) ∧ ((l' = l ∧ ¬ sameT k l (l.eraseIdx i)) ∨ (l' = l.eraseIdx i ∧ sameT k l (l.eraseIdx i))) := by
  obtain ⟨d1, d2⟩ := del_eq hi
  have h24 := hl.1
  have hw : IntKind.i64.wrap ((i : Int) + 1) = ((i + 1 : Nat) : Int) := by rw [wrap_i64_eq (by omega)]; rfl
  obtain ⟨xs, f, h1, h2⟩ := differ_iff hk hl (good_erase hl i)
  have hc : cloneO l = some l := by unfold cloneO; rw [if_pos (by omega)]
  have hstep : m_tariff_Lean_l2 (k : Int) (l, (i : Int)) = some (.inl (cond (!f) (l.eraseIdx i) l, (i : Int) - 1)) := by
    unfold m_tariff_Lean_l2
    dsimp only
    rw [decide_eq_true (by omega), cond_true, hc]
    simp only [Option.bind_some]
    rw [hw, d1, d2]
    unfold guardO
    rw [if_pos (decide_eq_true (by omega)), h1]
    simp only [Option.bind_some]
    rw [wrap_i64_eq (by omega)]
    cases f <;> rfl
  refine ⟨_, hstep, ?_⟩
  cases f with
  | false => exact .inr ⟨rfl, h2.1 rfl⟩
  | true => exact .inl ⟨rfl, fun h => by have := h2.2 h; cases this⟩
theorem lean_loop {k : Nat} (hk : k ≤ 4) (t : List Rule) : ∀ (n : Nat) (l : List Rule), n ≤ l.length → GoodL k l → l.Sublist t → sameT k l t → irrFrom k n l → ∃ out, iter (m_tariff_Lean_l2 (k : Int)) (l, (n : Int) - 1) = some out ∧ GoodL k out ∧ out.Sublist t ∧ sameT k out t ∧ irrFrom k 0 out ∧ (irrFrom k 0 l → out = l)
  | 0, l, hn, hl, hs, hsame, hirr => by
    refine ⟨l, iter_done ?_, hl, hs, hsame, hirr, fun _ => rfl⟩
    unfold m_tariff_Lean_l2
    dsimp only
    rw [decide_eq_false (by omega)]; rfl
  | n + 1, l, hn, hl, hs, hsame, hirr => by
    obtain ⟨l', h1, h2⟩ := lean_step hk hl (show n < l.length by omega)
    have e : ((n + 1 : Nat) : Int) - 1 = (n : Int) := by omega
    rw [e]
    rcases h2 with ⟨rfl, h2⟩ | ⟨rfl, h2⟩
    · obtain ⟨out, g1, g2⟩ := lean_loop hk t n l' (by omega) hl hs hsame (fun j hj hj2 => by
        by_cases hjn : j = n
        · subst hjn; exact h2
        · exact hirr j (by omega) hj2)
      exact ⟨out, iter_step h1 g1, g2⟩
    · obtain ⟨out, g1, g2, g3, g4, g5, _⟩ := lean_loop hk t n (l.eraseIdx n) (by rw [List.length_eraseIdx_of_lt (by omega)]; omega) (good_erase hl n) ((List.eraseIdx_sublist l n).trans hs) (sameT_trans (sameT_symm h2) hsame) (irr_step (by omega) hirr)
      exact ⟨out, iter_step h1 g1, g2, g3, g4, g5, fun hi => absurd h2 (hi n (by omega) (by omega))⟩
theorem lean_copy (t : List Rule) {k : Nat} (hk : k ≤ 4) (ht : GoodL k t) : ∀ (n i : Nat) (L : List Rule), n = t.length - i → L.length ≤ i → iter (m_tariff_Lean_l1 t) ((i : Int), L) = some (L ++ t.drop i)
  | 0, i, L, hn, hL => by
    rw [drop_all t (by omega), List.append_nil]
    refine iter_done ?_
    unfold m_tariff_Lean_l1
    dsimp only
    rw [decide_eq_false (by omega)]; rfl
  | n + 1, i, L, hn, hL => by
    have hi : i < t.length := by omega
    have h24 := ht.1
    have h2 : idx t (i : Int) = some t[i] := by unfold idx; simp [hi]
    have hb := fine_len (ht.2 t[i] (List.getElem_mem hi))
    have hc : cloneO t[i].Bands = some t[i].Bands := by unfold cloneO; rw [if_pos (by omega)]
    have ih := lean_copy t hk ht n (i + 1) (L ++ [t[i]]) (by omega) (by simp; omega)
    rw [List.append_assoc] at ih
    rw [List.drop_eq_getElem_cons hi]
    refine iter_step ?_ ih
    unfold m_tariff_Lean_l1
    dsimp only
    rw [decide_eq_true (by omega), cond_true, h2]
    simp only [Option.bind_some, hc]
    rw [wrap_i64_eq (by omega)]
    unfold guardO
    rw [if_pos (by simp; omega)]; rfl
theorem Lean_val {k : Nat} {t : List Rule} (h : chk (k : Int) [t] = 0) : ∃ out, m_tariff_Lean (k : Int) t = some (out, 0) ∧ GoodL k out ∧ out.Sublist t ∧ sameT k out t ∧ irrFrom k 0 out ∧ (irrFrom k 0 t → out = t) := by
  obtain ⟨k1, k2, t1, t2⟩ := chk_good h
  have hk : k ≤ 4 := by omega
  have hc := lean_copy t hk ⟨t1, t2⟩ t.length 0 [] (by omega) (by simp)
  have hc : iter (m_tariff_Lean_l1 t) (0, []) = some ([] ++ t.drop 0) := hc
  rw [List.nil_append, List.drop_zero] at hc
  obtain ⟨out, g1, g2⟩ := lean_loop hk t t.length t (Nat.le_refl _) ⟨t1, t2⟩ (List.Sublist.refl _) (sameT_refl k t) (fun j h1 h2 => by omega)
  refine ⟨out, ?_, g2⟩
  unfold m_tariff_Lean
  rw [checked_eq (k : Int) [t] (by simp), h]
  simp only [Option.bind_some, decide_not, decide_true, Bool.not_true, cond_false, hc]
  rw [wrap_i64_eq (by omega), g1]; rfl
theorem Lean_bad {k : Int} {t : List Rule} (h : chk k [t] ≠ 0) : m_tariff_Lean k t = some ([], chk k [t]) := by
  unfold m_tariff_Lean
  rw [checked_eq k [t] (by simp), Option.bind_some]
  have hz : decide (¬ chk k [t] = 0) = true := decide_eq_true h
  rw [hz]; rfl
end Go.Pv

namespace Go.Pv
theorem rules_one_bands (a b : Rule) (hl : a.Bands.length = b.Bands.length) (h20 : a.Bands.length ≤ 20) : ∀ (n j : Nat), n = a.Bands.length - j → (iter (m_cocketlaw02_rules_l3 [a] [b] 0) (j : Int) = some (.inl ()) ∧ a.Bands.drop j = b.Bands.drop j) ∨ (iter (m_cocketlaw02_rules_l3 [a] [b] 0) (j : Int) = some (.inr false) ∧ a.Bands.drop j ≠ b.Bands.drop j)
  | 0, j, hn => by
    refine .inl ⟨iter_done ?_, by rw [drop_all _ (by omega), drop_all _ (by omega)]⟩
    have e1 : idx [a] 0 = some a := rfl
    unfold m_cocketlaw02_rules_l3
    rw [e1]
    simp only [Option.bind_some]
    rw [decide_eq_false (by omega)]; rfl
  | n + 1, j, hn => by
    have e1 : idx [a] 0 = some a := rfl
    have e2 : idx [b] 0 = some b := rfl
    have hj : j < a.Bands.length := by omega
    have hjb : j < b.Bands.length := by omega
    have e3 : idx a.Bands (j : Int) = some a.Bands[j] := by unfold idx; simp [hj]
    have e4 : idx b.Bands (j : Int) = some b.Bands[j] := by unfold idx; simp [hjb]
    have hf : m_cocketlaw02_rules_l3 [a] [b] 0 (j : Int) = cond (!((a.Bands[j].Lo == b.Bands[j].Lo) && (a.Bands[j].Hi == b.Bands[j].Hi))) (some (.inr (.inr false))) (some (.inl ((j + 1 : Nat) : Int))) := by
      unfold m_cocketlaw02_rules_l3
      rw [e1, e2]
      simp only [Option.bind_some]
      rw [decide_eq_true (by omega), cond_true, e3, e4]
      simp only [Option.bind_some]
      rw [wrap_i64_eq (by omega)]; rfl
    rw [List.drop_eq_getElem_cons hj, List.drop_eq_getElem_cons hjb]
    by_cases hq : a.Bands[j].Lo = b.Bands[j].Lo ∧ a.Bands[j].Hi = b.Bands[j].Hi
    · have hb : a.Bands[j] = b.Bands[j] := by
        cases h1 : a.Bands[j]; cases h2 : b.Bands[j]
        rw [h1, h2] at hq; simp only at hq
        rw [hq.1, hq.2]
      have hc : (!((a.Bands[j].Lo == b.Bands[j].Lo) && (a.Bands[j].Hi == b.Bands[j].Hi))) = false := by simp [hq.1, hq.2]
      rw [hc, cond_false] at hf
      rcases rules_one_bands a b hl h20 n (j + 1) (by omega) with ⟨g1, g2⟩ | ⟨g1, g2⟩
      · exact .inl ⟨iter_step hf g1, by rw [hb, g2]⟩
      · exact .inr ⟨iter_step hf g1, fun h => g2 (List.cons.inj h).2⟩
    · have hc : (!((a.Bands[j].Lo == b.Bands[j].Lo) && (a.Bands[j].Hi == b.Bands[j].Hi))) = true := by
        simp only [Bool.not_eq_true', Bool.and_eq_false_iff, beq_eq_false_iff_ne]
        by_cases h : a.Bands[j].Lo = b.Bands[j].Lo
        · exact .inr fun h2 => hq ⟨h, h2⟩
        · exact .inl h
      rw [hc, cond_true] at hf
      refine .inr ⟨iter_done hf, fun h => hq ?_⟩
      have := (List.cons.inj h).1
      rw [this]; exact ⟨rfl, rfl⟩
theorem rules_one (a b : Rule) (h20 : a.Bands.length ≤ 20) : ∃ r, m_cocketlaw02_rules [a] [b] = some r ∧ (r = true ↔ a = b) := by
  have e1 : idx [a] 0 = some a := rfl
  have e2 : idx [b] 0 = some b := rfl
  have hend : m_cocketlaw02_rules_l1 [a] [b] 1 = some (.inr (.inl ())) := by
    unfold m_cocketlaw02_rules_l1
    rw [decide_eq_false (by simp)]; rfl
  by_cases hc : a.Code = b.Code
  · by_cases hl : a.Bands.length = b.Bands.length
    · rcases rules_one_bands a b hl h20 a.Bands.length 0 (by omega) with ⟨g1, g2⟩ | ⟨g1, g2⟩
      · have g1 : iter (m_cocketlaw02_rules_l3 [a] [b] 0) 0 = some (.inl ()) := g1
        refine ⟨true, ?_, fun _ => ?_, fun _ => rfl⟩
        · have hf : m_cocketlaw02_rules_l1 [a] [b] 0 = some (.inl 1) := by
            unfold m_cocketlaw02_rules_l1
            rw [decide_eq_true (by simp), cond_true, e1, e2]
            simp only [Option.bind_some, hc, hl, not_true_eq_false, decide_false, cond_false, g1]
            rfl
          unfold m_cocketlaw02_rules
          simp only [List.length_cons, List.length_nil, not_true_eq_false, decide_false, cond_false]
          rw [iter_step hf (iter_done hend)]; rfl
        · simp only [List.drop_zero] at g2
          cases a; cases b
          simp only at hc g2
          rw [hc, g2]
      · have g1 : iter (m_cocketlaw02_rules_l3 [a] [b] 0) 0 = some (.inr false) := g1
        refine ⟨false, ?_, ⟨(fun h => by cases h), fun h => ?_⟩⟩
        · have hf : m_cocketlaw02_rules_l1 [a] [b] 0 = some (.inr (.inr false)) := by
            unfold m_cocketlaw02_rules_l1
            rw [decide_eq_true (by simp), cond_true, e1, e2]
            simp only [Option.bind_some, hc, hl, not_true_eq_false, decide_false, cond_false, g1]
          unfold m_cocketlaw02_rules
          simp only [List.length_cons, List.length_nil, not_true_eq_false, decide_false, cond_false]
          rw [iter_done hf]; rfl
        · subst h; exact absurd rfl g2
    · refine ⟨false, ?_, ⟨(fun h => by cases h), fun h => ?_⟩⟩
      · have hf : m_cocketlaw02_rules_l1 [a] [b] 0 = some (.inr (.inr false)) := by
          have hd : decide (¬ (a.Bands.length : Int) = (b.Bands.length : Int)) = true := decide_eq_true (by omega)
          unfold m_cocketlaw02_rules_l1
          rw [decide_eq_true (by simp), cond_true, e1, e2]
          simp only [Option.bind_some, hc, not_true_eq_false, decide_false, cond_false, hd, cond_true]
        unfold m_cocketlaw02_rules
        simp only [List.length_cons, List.length_nil, not_true_eq_false, decide_false, cond_false]
        rw [iter_done hf]; rfl
      · subst h; exact absurd rfl hl
  · refine ⟨false, ?_, ⟨(fun h => by cases h), fun h => ?_⟩⟩
    · have hf : m_cocketlaw02_rules_l1 [a] [b] 0 = some (.inr (.inr false)) := by
        have hd : decide (¬ a.Code = b.Code) = true := decide_eq_true hc
        unfold m_cocketlaw02_rules_l1
        rw [decide_eq_true (by simp), cond_true, e1, e2]
        simp only [Option.bind_some, hd, cond_true]
      unfold m_cocketlaw02_rules
      simp only [List.length_cons, List.length_nil, not_true_eq_false, decide_false, cond_false]
      rw [iter_done hf]; rfl
    · subst h; exact absurd rfl hc
theorem one_slice {l : List Rule} {i : Nat} (hi : i < l.length) (h24 : l.length ≤ 24) : (0 ≤ (i : Int) ∧ (i : Int) ≤ IntKind.i64.wrap ((i : Int) + 1) ∧ IntKind.i64.wrap ((i : Int) + 1) ≤ (l.length : Int)) ∧ (l.drop ((i : Int)).toNat).take (IntKind.i64.wrap ((i : Int) + 1) - (i : Int)).toNat = [l[i]] := by
  have hw : IntKind.i64.wrap ((i : Int) + 1) = ((i + 1 : Nat) : Int) := by rw [wrap_i64_eq (by omega)]; rfl
  rw [hw]
  refine ⟨by omega, ?_⟩
  rw [show (((i + 1 : Nat) : Int) - (i : Int)).toNat = 1 by omega, Int.toNat_natCast, List.drop_eq_getElem_cons hi, List.take_succ_cons, List.take_zero]
theorem lean_find {t : List Rule} {r3 : List Rule × Int} (ht : t.length ≤ 24) (hb : ∀ r ∈ t, r.Bands.length ≤ 20) (hr : r3.1.length ≤ 24) {i : Nat} (hi : i < r3.1.length) {l' : List Rule} : ∀ (n a : Nat), n = t.length - a → (r3.1[i] :: l').Sublist (t.drop a) → ∃ p : Nat, iter (m_cocketlaw02_TariffLean_l2 t r3 (i : Int)) (a : Int) = some (p : Int) ∧ p < t.length ∧ l'.Sublist (t.drop (p + 1))
  | 0, a, hn, hs => by
    rw [drop_all t (by omega)] at hs
    have := hs.length_le
    simp at this
  | n + 1, a, hn, hs => by
    have ha : a < t.length := by omega
    obtain ⟨o1, o2⟩ := one_slice ha ht
    obtain ⟨o3, o4⟩ := one_slice hi hr
    obtain ⟨r, h1, h2⟩ := rules_one t[a] r3.1[i] (hb _ (List.getElem_mem ha))
    have hf : m_cocketlaw02_TariffLean_l2 t r3 (i : Int) (a : Int) = cond (!r) (some (.inl ((a + 1 : Nat) : Int))) (some (.inr (a : Int))) := by
      unfold m_cocketlaw02_TariffLean_l2
      rw [decide_eq_true (by omega), cond_true]
      unfold guardO
      rw [if_pos o1, if_pos o3, o2, o4, h1]
      simp only [Option.bind_some]
      rw [wrap_i64_eq (by omega)]; rfl
    rw [List.drop_eq_getElem_cons ha] at hs
    cases r with
    | true =>
      have he := h2.1 rfl
      rw [Bool.not_true, cond_false] at hf
      refine ⟨a, iter_done hf, ha, ?_⟩
      rw [he] at hs
      exact List.cons_sublist_cons.1 hs
    | false =>
      have hne : t[a] ≠ r3.1[i] := fun h => by have := h2.2 h; cases this
      rw [Bool.not_false, cond_true] at hf
      have hs2 : (r3.1[i] :: l').Sublist (t.drop (a + 1)) := by
        generalize r3.1[i] = x at hs hne
        cases hs with
        | cons _ h => exact h
        | cons_cons _ h => exact absurd rfl hne
      obtain ⟨p, g1, g2⟩ := lean_find ht hb hr hi n (a + 1) (by omega) hs2
      exact ⟨p, iter_step hf g1, g2⟩
theorem lean_match {t : List Rule} {r3 : List Rule × Int} (ht : t.length ≤ 24) (hb : ∀ r ∈ t, r.Bands.length ≤ 20) (hr : r3.1.length ≤ 24) : ∀ (n i a : Nat), n = r3.1.length - i → (r3.1.drop i).Sublist (t.drop a) → iter (m_cocketlaw02_TariffLean_l1 t r3) ((a : Int), (i : Int)) = some (.inl ())
  | 0, i, a, hn, hs => by
    refine iter_done ?_
    unfold m_cocketlaw02_TariffLean_l1
    dsimp only
    rw [decide_eq_false (by omega)]; rfl
  | n + 1, i, a, hn, hs => by
    have hi : i < r3.1.length := by omega
    rw [List.drop_eq_getElem_cons hi] at hs
    obtain ⟨p, g1, g2, g3⟩ := lean_find ht hb hr hi (t.length - a) a rfl hs
    refine iter_step ?_ (lean_match ht hb hr n (i + 1) (p + 1) (by omega) g3)
    unfold m_cocketlaw02_TariffLean_l1
    dsimp only
    have hne : decide ((p : Int) = (t.length : Int)) = false := decide_eq_false (by omega)
    rw [decide_eq_true (by omega), cond_true, g1]
    simp only [Option.bind_some, hne, cond_false]
    rw [wrap_i64_eq (by omega), wrap_i64_eq (by omega)]; rfl
theorem deadL_nil : ∀ (l : List Int) (v : Int), (∀ x ∈ l, x ≠ 0) → deadL v l = []
  | [], _, _ => rfl
  | x :: l, v, h => by
    rw [deadL, if_neg (h x (List.mem_cons_self ..))]
    exact deadL_nil l _ fun y hy => h y (List.mem_cons_of_mem _ hy)
theorem irr_dead {k : Nat} {l : List Rule} (hl : GoodL k l) (h : irrFrom k 0 l) {i : Nat} (hi : i < l.length) : 0 < ent (cntV l k 0 (allN l)) i := by
  rw [cntV_pos l i k 0 (allN l) (allN_lt l)]
  have h1 := h i (by omega) hi
  have h2 : ∃ xs, Pts k xs ∧ codeL l xs ≠ codeL (l.eraseIdx i) xs := by
    refine Classical.byContradiction fun hn => h1 fun xs hx => ?_
    refine Classical.byContradiction fun hne => hn ⟨xs, hx, hne⟩
  obtain ⟨xs, hx, hne⟩ := h2
  obtain ⟨g1, g2⟩ := codeL_ne hi hne
  refine ⟨xs, hx, ?_⟩
  have hd : decideS l xs = (i : Int) := by
    unfold decideS
    have : l.findIdx? (fun r => fitsL r.Bands xs) = some i := List.findIdx?_eq_some_iff_getElem.2 ⟨hi, g1, fun j hj => by rw [g2 j hj]; simp⟩
    rw [this]
  unfold posN
  rw [decide_first hl hx.1, hd, if_neg (by omega), Int.toNat_natCast]
theorem TariffLean_law (k : Int) (t : List Rule) : m_cocketlaw02_TariffLean k t = some true := by
  unfold m_cocketlaw02_TariffLean
  obtain ⟨b, hb⟩ := few_total k t
  rw [hb, Option.bind_some]
  cases b with
  | false => rw [Bool.not_false, cond_true, alive_true]; rfl
  | true =>
    rw [Bool.not_true, cond_false]
    by_cases hc : chk k [t] = 0
    · obtain ⟨k1, k2, t1, t2⟩ := chk_good hc
      obtain ⟨n, rfl⟩ : ∃ n : Nat, k = n := ⟨k.toNat, by omega⟩
      obtain ⟨out, h1, h2, h3, h4, h5, _⟩ := Lean_val hc
      have hco : chk (n : Int) [out] = 0 := chk_of k1 k2 h2.1 h2.2
      obtain ⟨out2, g1, _, _, _, _, g2⟩ := Lean_val hco
      have hg := g2 h5
      subst hg
      obtain ⟨xs, f, d1, d2, _⟩ := Differ_iff hco hc
      have hf := d2.2 h4
      subst hf
      obtain ⟨_, hD⟩ := Counts_val hco
      have hlen := cntV_len out2 n 0 (allN out2)
      have hdead : deadL 0 ((cntV out2 n 0 (allN out2)).take out2.length) = [] := deadL_nil _ _ fun x hx => by
        obtain ⟨i, hi, rfl⟩ := List.getElem_of_mem hx
        have hi2 : i < out2.length := by rw [List.length_take] at hi; omega
        rw [List.getElem_take, ← ent_at]
        have := irr_dead h2 h5 hi2
        omega
      rw [hdead] at hD
      have hsm : Small out2 := ⟨by have := h2.1; omega, fun r hr => by have := fine_len (h2.2 r hr); omega⟩
      have hm := lean_match (t := t) (r3 := (out2, 0)) t1 (fun r hr => by have := fine_len (t2 r hr); omega) h2.1 out2.length 0 0 (by simp) (by simpa using h3)
      have hm : iter (m_cocketlaw02_TariffLean_l1 t (out2, 0)) (0, 0) = some (.inl ()) := hm
      rw [h1, Option.bind_some]
      have hz : decide (¬ (0 : Int) = 0) = false := by simp
      simp only [not_true_eq_false, decide_false, cond_false]
      rw [hm]
      simp only [Option.bind_some, d1, hD, g1, cond_false, decide_true, List.length_nil, Bool.and_self, cond_true, rules_self hsm, alive_true, Int.natCast_zero, show (((0 : Nat) : Int) = 0) = True from by simp]
    · rw [Lean_bad hc, Option.bind_some]
      have hz : decide (¬ chk k [t] = 0) = true := decide_eq_true hc
      simp only [hz, cond_true, List.length_nil]
      simp [alive_true]
end Go.Pv

namespace Go.Pv.Tryd
open Go.Proofs Go.Pv
set_option maxHeartbeats 4000000 in
theorem m_cocketref02_Good_ok (k1 : Int) (t1 : (List Rule)) (r : Int) (h : m_cocketref02_Good k1 t1 = some r) : PureFn Tryd.prog G 40 [.d (.int .i64 k1), .d (.imm 2 (lenc Rule.pd t1))] (.d (.int .i64 r)) := by
 unfold m_cocketref02_Good at h
 refine pf Tryd.func40 Tryd.ntmps40 ?_
 refine sg fun K k => ?_
 refine oo ?_
 refine AOps.nil (k _ ?_)
 refine AWp.seq fun _ K_1 => ?_
 refine sg fun K k => ?_
 iterate 3 refine oo ?_
 refine ct 3 [0, 1] [] (fun  t => (13, .d (.bool ((decide (k1 < 1)) || (decide (4 < k1))))) :: t) ?_ ?_
 ·rcases bt (decide (k1 < 1)) with hg_3 | hg_3
  ·rw [hg_3]
   iterate 3 refine oo ?_
   refine AOps.nil ?_
   exact sb
  ·rw [hg_3]
   iterate 3 refine oo ?_
   refine AOps.nil ?_
   exact sb
 refine AOps.nil (k _ ?_)
 refine cd h (fun h => ?_) (fun h => ?_)
 ·refine sg fun K k => ?_
  refine oo ?_
  refine AOps.nil (k _ ?_)
  refine AWp.ret ?_
  cases h; exact rt
 ·refine AWp.skip ?_
  refine K_1 _ ?_
  refine AWp.seq fun _ K_5 => ?_
  refine sg fun K k => ?_
  iterate 3 refine oo ?_
  refine AOps.nil (k _ ?_)
  refine cd h (fun h => ?_) (fun h => ?_)
  ·refine sg fun K k => ?_
   refine oo ?_
   refine AOps.nil (k _ ?_)
   refine AWp.ret ?_
   cases h; exact rt
  ·refine AWp.skip ?_
   refine K_5 _ ?_
   refine jm (ι := Unit) [] [] (fun i t => t) (fun i t => t) .inl h ?_ ?_
   ·intro _ hj_8 h
    refine sg fun K k => ?_
    refine oo ?_
    refine AOps.nil (k _ ?_)
    refine AWp.block ?_
    obtain ⟨x_13, hl_10, h2_11⟩ := bind_some hj_8
    refine lp (S := Int) [0, 1] [] (fun i t => (5, .d (.int .i64 i)) :: t) (fun i t => t) hl_10 ?_ ?_; exact sb; clear hl_10
    rintro i1 _ hb_12; unfold m_cocketref02_Good_l1 at hb_12; try dsimp only at hb_12
    try dsimp only
    refine AWp.seq fun _ K_15 => ?_
    refine sg fun K k => ?_
    iterate 4 refine oo ?_
    refine AOps.nil (k _ ?_)
    refine cd hb_12 (fun hb_12 => ?_) (fun hb_12 => ?_)
    ·refine AWp.skip ?_
     refine K_15 _ ?_
     refine jm (ι := Unit) [0, 1, 5] [] (fun i t => t) (fun i t => t) .inl hb_12 ?_ ?_
     ·intro _ hj_18 hb_12
      refine AWp.block ?_
      refine sg fun K k => ?_
      obtain ⟨e1, ⟨f_19, f_20, f_21, f_22⟩, hj_18⟩ := idx_bind hj_18
      iterate 3 refine oo ?_
      refine oo ?_ (by intro K k; simp (disch := omega) only [go_sem, f_21, ↓reduceIte]; exact k)
      iterate 2 refine oo ?_
      refine AOps.nil (k _ ?_)
      refine AWp.seq fun _ K_23 => ?_
      refine sg fun K k => ?_
      iterate 6 refine oo ?_
      refine ct 4 [0, 1, 5, 6] [1000] (fun  t => (36, .d (.bool ((decide (¬(e1.Bands.length : Int) = k1)) || (decide (e1.Code < 0))))) :: t) ?_ ?_
      ·rcases bt (decide (¬(e1.Bands.length : Int) = k1)) with hg_25 | hg_25
       ·rw [hg_25]
        iterate 4 refine oo ?_
        refine AOps.nil ?_
        exact sb
       ·rw [hg_25]
        iterate 4 refine oo ?_
        refine AOps.nil ?_
        exact sb
      refine oo ?_
      refine ct 4 [0, 1, 5, 6] [1000] (fun  t => (41, .d (.bool (((decide (¬(e1.Bands.length : Int) = k1)) || (decide (e1.Code < 0))) || (decide (99 < e1.Code))))) :: t) ?_ ?_
      ·rcases bt ((decide (¬(e1.Bands.length : Int) = k1)) || (decide (e1.Code < 0))) with hg_27 | hg_27
       ·rw [hg_27]
        iterate 4 refine oo ?_
        refine AOps.nil ?_
        exact sb
       ·rw [hg_27]
        iterate 4 refine oo ?_
        refine AOps.nil ?_
        exact sb
      refine AOps.nil (k _ ?_)
      refine cd hj_18 (fun hj_18 => ?_) (fun hj_18 => ?_)
      ·refine sg fun K k => ?_
       refine oo ?_
       refine AOps.nil (k _ ?_)
       refine AWp.ret ?_
       cases hj_18; try dsimp only at hb_12
       refine lx hb_12 fun hx => ?_; cases hx; try dsimp only at h2_11
       cases h2_11; try dsimp only at h
       cases h; exact rt
      ·refine AWp.skip ?_
       refine K_23 _ ?_
       refine sg fun K k => ?_
       refine oo ?_
       refine AOps.nil (k _ ?_)
       refine AWp.block ?_
       obtain ⟨x_33, hl_30, h2_31⟩ := bind_some hj_18
       refine lp (S := Int) [0, 1, 5, 6] [1000] (fun i t => (7, .d (.int .i64 i)) :: t) (fun i t => t) hl_30 ?_ ?_; exact sb; clear hl_30
       rintro m1 _ hb_32; unfold m_cocketref02_Good_l2 at hb_32; try dsimp only at hb_32
       try dsimp only
       refine AWp.seq fun _ K_35 => ?_
       refine sg fun K k => ?_
       iterate 3 refine oo ?_
       refine AOps.nil (k _ ?_)
       refine cd hb_32 (fun hb_32 => ?_) (fun hb_32 => ?_)
       ·refine AWp.skip ?_
        refine K_35 _ ?_
        refine AWp.seq fun _ K_37 => ?_
        refine AWp.block ?_
        refine sd mo fun K k => ?_
        obtain ⟨e2, ⟨f_38, f_39, f_40, f_41⟩, hb_32⟩ := idx_bind hb_32
        iterate 5 refine dd ?_
        refine dd ?_ (by intro K k; simp (disch := omega) only [go_sem, f_40, ↓reduceIte]; exact k)
        iterate 2 refine dd ?_
        rcases bt (decide (e2.Lo < 0)) with hg_42 | hg_42
        ·rw [hg_42]
         rw [hg_42, cond_true] at hb_32
         iterate 23 refine dd ?_
         refine DOps.nil (by kernel_rfl) (k _ ?_)
         refine cdt ?_
         refine sg fun K k => ?_
         refine oo ?_
         refine AOps.nil (k _ ?_)
         refine AWp.ret ?_
         refine lx hb_32 fun hx => ?_; cases hx; try dsimp only at h2_31
         cases h2_31; try dsimp only at hb_12
         refine lx hb_12 fun hx => ?_; cases hx; try dsimp only at h2_11
         cases h2_11; try dsimp only at h
         cases h; exact rt
        ·rw [hg_42]
         rw [hg_42, cond_false] at hb_32
         iterate 5 refine dd ?_
         refine dd ?_ (by intro K k; simp (disch := omega) only [go_sem, f_40, ↓reduceIte]; exact k)
         iterate 5 refine dd ?_
         refine dd ?_ (by intro K k; simp (disch := omega) only [go_sem, f_40, ↓reduceIte]; exact k)
         iterate 3 refine dd ?_
         rcases bt (decide (e2.Hi ≤ e2.Lo)) with hg_44 | hg_44
         ·rw [hg_44]
          rw [hg_44, cond_true] at hb_32
          iterate 8 refine dd ?_
          refine DOps.nil (by kernel_rfl) (k _ ?_)
          refine cdt ?_
          refine sg fun K k => ?_
          refine oo ?_
          refine AOps.nil (k _ ?_)
          refine AWp.ret ?_
          refine lx hb_32 fun hx => ?_; cases hx; try dsimp only at h2_31
          cases h2_31; try dsimp only at hb_12
          refine lx hb_12 fun hx => ?_; cases hx; try dsimp only at h2_11
          cases h2_11; try dsimp only at h
          cases h; exact rt
         ·rw [hg_44]
          rw [hg_44, cond_false] at hb_32
          iterate 5 refine dd ?_
          refine dd ?_ (by intro K k; simp (disch := omega) only [go_sem, f_40, ↓reduceIte]; exact k)
          iterate 2 refine dd ?_
          refine DOps.nil (by kernel_rfl) (k _ ?_)
          refine cd hb_32 (fun hb_32 => ?_) (fun hb_32 => ?_)
          ·refine sg fun K k => ?_
           refine oo ?_
           refine AOps.nil (k _ ?_)
           refine AWp.ret ?_
           refine lx hb_32 fun hx => ?_; cases hx; try dsimp only at h2_31
           cases h2_31; try dsimp only at hb_12
           refine lx hb_12 fun hx => ?_; cases hx; try dsimp only at h2_11
           cases h2_11; try dsimp only at h
           cases h; exact rt
          ·refine AWp.skip ?_
           refine K_37 _ ?_
           refine AWp.reg ?_
           iterate 3 refine oo ?_
           refine AOps.nil ?_
           exact ln hb_32 sb
       ·refine AWp.exit ?_
        refine lx hb_32 fun hx => ?_; cases hx; try dsimp only at h2_31
        exact ln h2_31 sb
     ·rintro _ hb_12; dsimp only at hb_12 ⊢
      refine AWp.reg ?_
      iterate 3 refine oo ?_
      refine AOps.nil ?_
      exact ln hb_12 sb
    ·refine AWp.exit ?_
     refine lx hb_12 fun hx => ?_; cases hx; try dsimp only at h2_11
     exact ln h2_11 sb
   ·rintro _ h; dsimp only at h ⊢
    refine sg fun K k => ?_
    refine oo ?_
    refine AOps.nil (k _ ?_)
    refine AWp.ret ?_
    cases h; exact rt
end Go.Pv.Tryd

namespace Go.Pv.Tryd
open Go.Proofs Go.Pv
theorem m_cocketref02_all_ok (t1 : (List Rule)) (r : Int) (h : m_cocketref02_all t1 = some r) : PureFn Tryd.prog G 51 [.d (.imm 2 (lenc Rule.pd t1))] (.d (.int .i64 r)) := by
 unfold m_cocketref02_all at h
 refine pf Tryd.func51 Tryd.ntmps51 ?_
 refine sg fun K k => ?_
 refine oo ?_
 refine AOps.nil (k _ ?_)
 refine sg fun K k => ?_
 obtain ⟨hg_1, h⟩ := guardO_some h
 iterate 5 refine oo ?_
 refine AOps.nil (k _ ?_)
 refine AWp.ret ?_
 cases h; exact rt
end Go.Pv.Tryd

namespace Go.Pv.Tryd
open Go.Proofs Go.Pv
theorem m_cocketref02_put_ok (l1 : (List Int)) (n1 : Int) (r : (List Int)) (h : m_cocketref02_put l1 n1 = some r) : PureFn Tryd.prog G 86 [.d (.imm 1 (lenc (PD.int .i64) l1)), .d (.int .i64 n1)] (.d (.imm 1 (lenc (PD.int .i64) r))) := by
 unfold m_cocketref02_put at h
 refine pf Tryd.func86 Tryd.ntmps86 ?_
 refine sg fun K k => ?_
 refine oo ?_
 refine AOps.nil (k _ ?_)
 refine sg fun K k => ?_
 refine oo ?_
 refine AOps.nil (k _ ?_)
 refine AWp.sub (Sub.void 5 3 1 1000 (by rfl) (by rfl) (by decide) (by decide)) ?_
 simp only [eput, hput, reduceCtorEq, ↓reduceIte, Nat.reduceAdd, Nat.reduceMul, Nat.reduceLT, Nat.reduceLeDiff, Nat.reduceEqDiff, Nat.reduceBEq, Int.reduceToNat]
 refine sg fun K k => ?_
 refine oo ?_
 refine AOps.nil (k _ ?_)
 refine jn (α := (Bool × (List Int))) [1] [] (fun i t => (5, .slc 1000 0 i.2.length) :: (6, .d (.bool i.1)) :: t) (fun i t => (1000, ⟨3, 1, dl (lenc (PD.int .i64) i.2)⟩) :: t) h ?_ ?_
 ·intro _ hj_2
  refine sg fun K k => ?_
  refine oo ?_
  refine AOps.nil (k _ ?_)
  refine AWp.block ?_
  obtain ⟨x_7, hl_4, h2_5⟩ := bind_some hj_2
  refine lp (S := (Bool × Int × (List Int))) [0, 1] [] (fun i t => (5, .slc 1000 0 i.2.2.length) :: (6, .d (.bool i.1)) :: (7, .d (.int .i64 i.2.1)) :: t) (fun i t => (1000, ⟨3, 1, dl (lenc (PD.int .i64) i.2.2)⟩) :: t) hl_4 ?_ ?_; exact sb; clear hl_4
  rintro ⟨done2, i1, L2⟩ _ hb_6; unfold m_cocketref02_put_l1 at hb_6; try dsimp only at hb_6
  try dsimp only
  refine AWp.seq fun _ K_9 => ?_
  refine sg fun K k => ?_
  iterate 4 refine oo ?_
  refine AOps.nil (k _ ?_)
  refine cd hb_6 (fun hb_6 => ?_) (fun hb_6 => ?_)
  ·refine AWp.skip ?_
   refine K_9 _ ?_
   refine AWp.seq fun _ K_11 => ?_
   refine AWp.block ?_
   refine jn (α := (Bool × (List Int))) [0, 1, 7] [] (fun i t => (5, .slc 1000 0 i.2.length) :: (6, .d (.bool i.1)) :: t) (fun i t => (1000, ⟨3, 1, dl (lenc (PD.int .i64) i.2)⟩) :: t) hb_6 ?_ ?_
   ·intro _ hj_13
    refine sg fun K k => ?_
    iterate 3 refine oo ?_
    obtain ⟨b1, hc_14, hj_13⟩ := bind_some hj_13
    refine ct 7 [0, 1, 5, 6, 7] [1000] (fun  t => (23, .d (.bool b1)) :: t) ?_ ?_
    ·rcases bt (!done2) with hg_19 | hg_19
     ·rw [hg_19]
      rw [hg_19, cond_true] at hc_14
      obtain ⟨e1, ⟨f_15, f_16, f_17, f_18⟩, hc_14⟩ := idx_bind hc_14
      iterate 4 refine oo ?_
      refine oo ?_ (by intro K k; simp (disch := omega) only [go_sem, f_17, ↓reduceIte]; exact k)
      iterate 2 refine oo ?_
      refine AOps.nil ?_
      cases hc_14
      exact sb
     ·rw [hg_19]
      rw [hg_19, cond_false] at hc_14
      iterate 7 refine oo ?_
      refine AOps.nil ?_
      cases hc_14
      exact sb
    refine AOps.nil (k _ ?_)
    refine cd hj_13 (fun hj_13 => ?_) (fun hj_13 => ?_)
    ·refine sg fun K k => ?_
     refine oo ?_
     refine AOps.nil (k _ ?_)
     refine sg fun K k => ?_
     obtain ⟨e2, ⟨f_21, f_22, f_23, f_24⟩, hj_13⟩ := idx_bind hj_13
     iterate 4 refine oo ?_
     refine oo ?_ (by intro K k; simp (disch := omega) only [go_sem, f_23, ↓reduceIte]; exact k)
     refine oo ?_
     refine AOps.nil (k _ ?_)
     refine cd hj_13 (fun hj_13 => ?_) (fun hj_13 => ?_)
     ·refine AWp.reg ?_
      iterate 2 refine oo ?_
      refine ol ?_
      obtain ⟨hg_26, hj_13⟩ := guardO_some hj_13
      iterate 2 refine oo ?_
      refine AOps.nil ?_
      cases hj_13; exact sb
     ·refine AWp.skip ?_
      cases hj_13; exact sb
    ·refine AWp.skip ?_
     cases hj_13; exact sb
   ·rintro ⟨done3, L3⟩ hb_6; dsimp only at hb_6 ⊢
    refine AWp.reg ?_
    obtain ⟨e3, ⟨f_27, f_28, f_29, f_30⟩, hb_6⟩ := idx_bind hb_6
    iterate 4 refine oo ?_
    refine oo ?_ (by intro K k; simp (disch := omega) only [go_sem, f_29, ↓reduceIte]; exact k)
    refine ol ?_
    obtain ⟨hg_31, hb_6⟩ := guardO_some hb_6
    iterate 2 refine oo ?_
    refine AOps.nil ?_
    refine K_11 _ ?_
    refine AWp.reg ?_
    iterate 3 refine oo ?_
    refine AOps.nil ?_
    exact ln hb_6 sb
  ·refine AWp.exit ?_
   refine lx hb_6 fun hx => ?_; cases hx; try dsimp only at h2_5
   cases h2_5; exact sb
 ·rintro ⟨done1, L1⟩ h; dsimp only at h ⊢
  refine jn (α := (List Int)) [] [] (fun i t => (5, .slc 1000 0 i.length) :: t) (fun i t => (1000, ⟨3, 1, dl (lenc (PD.int .i64) i)⟩) :: t) h ?_ ?_
  ·intro _ hj_33
   refine sg fun K k => ?_
   iterate 2 refine oo ?_
   refine AOps.nil (k _ ?_)
   refine cd hj_33 (fun hj_33 => ?_) (fun hj_33 => ?_)
   ·refine AWp.reg ?_
    iterate 2 refine oo ?_
    refine ol ?_
    obtain ⟨hg_35, hj_33⟩ := guardO_some hj_33
    iterate 2 refine oo ?_
    refine AOps.nil ?_
    cases hj_33; exact sb
   ·refine AWp.skip ?_
    cases hj_33; exact sb
  ·rintro L4 h; dsimp only at h ⊢
   refine sg fun K k => ?_
   iterate 2 refine oo ?_
   refine AOps.nil (k _ ?_)
   refine AWp.ret ?_
   cases h; exact rt
end Go.Pv.Tryd

namespace Go.Pv.Tryd
open Go.Proofs Go.Pv
theorem m_cocketref02_cuts_ok (t1 : (List Rule)) (mark1 : Int) (set1 : Int) (r : (List Int)) (h : m_cocketref02_cuts t1 mark1 set1 = some r) : PureFn Tryd.prog G 53 [.d (.imm 2 (lenc Rule.pd t1)), .d (.int .i64 mark1), .d (.int .i64 set1)] (.d (.imm 1 (lenc (PD.int .i64) r))) := by
 unfold m_cocketref02_cuts at h
 refine pf Tryd.func53 Tryd.ntmps53 ?_
 refine sg fun K k => ?_
 refine oo ?_
 refine AOps.nil (k _ ?_)
 refine sg fun K k => ?_
 refine ol ?_
 refine oo ?_
 refine AOps.nil (k _ ?_)
 refine jn (α := (List Int)) [] [] (fun i t => (7, .d (.imm 1 (lenc (PD.int .i64) i))) :: t) (fun i t => t) h ?_ ?_
 ·intro _ hj_2
  refine sg fun K k => ?_
  refine oo ?_
  refine AOps.nil (k _ ?_)
  refine AWp.block ?_
  obtain ⟨x_7, hl_4, h2_5⟩ := bind_some hj_2
  refine lp (S := ((List Int) × Int)) [0, 1, 2] [] (fun i t => (7, .d (.imm 1 (lenc (PD.int .i64) i.1))) :: (8, .d (.int .i64 i.2)) :: t) (fun i t => t) hl_4 ?_ ?_; exact sb; clear hl_4
  rintro ⟨out2, i1⟩ _ hb_6; unfold m_cocketref02_cuts_l1 at hb_6; try dsimp only at hb_6
  try dsimp only
  refine AWp.seq fun _ K_9 => ?_
  refine sg fun K k => ?_
  iterate 4 refine oo ?_
  refine AOps.nil (k _ ?_)
  refine cd hb_6 (fun hb_6 => ?_) (fun hb_6 => ?_)
  ·refine AWp.skip ?_
   refine K_9 _ ?_
   refine jn (α := (List Int)) [0, 1, 2, 8] [] (fun i t => (7, .d (.imm 1 (lenc (PD.int .i64) i))) :: t) (fun i t => t) hb_6 ?_ ?_
   ·intro _ hj_12
    refine AWp.block ?_
    refine sg fun K k => ?_
    obtain ⟨hg_13, hj_12⟩ := guardO_some hj_12
    iterate 5 refine oo ?_
    refine AOps.nil (k _ ?_)
    refine cd hj_12 (fun hj_12 => ?_) (fun hj_12 => ?_)
    ·refine jn (α := (List Int)) [0, 1, 2, 8] [] (fun i t => (7, .d (.imm 1 (lenc (PD.int .i64) i))) :: t) (fun i t => t) hj_12 ?_ ?_
     ·intro _ hj_16
      refine sg fun K k => ?_
      obtain ⟨e1, ⟨f_17, f_18, f_19, f_20⟩, hj_16⟩ := idx_bind hj_16
      iterate 4 refine oo ?_
      refine oo ?_ (by intro K k; simp (disch := omega) only [go_sem, f_19, ↓reduceIte]; exact k)
      obtain ⟨e2, ⟨f_21, f_22, f_23, f_24⟩, hj_16⟩ := idx_bind hj_16
      iterate 3 refine oo ?_
      refine oo ?_ (by intro K k; simp (disch := omega) only [go_sem, f_23, ↓reduceIte]; exact k)
      refine oo ?_
      refine AOps.nil (k _ ?_)
      refine cd hj_16 (fun hj_16 => ?_) (fun hj_16 => ?_)
      ·refine AWp.reg ?_
       obtain ⟨e3, ⟨f_26, f_27, f_28, f_29⟩, hj_16⟩ := idx_bind hj_16
       iterate 5 refine oo ?_
       refine oo ?_ (by intro K k; simp (disch := omega) only [go_sem, f_28, ↓reduceIte]; exact k)
       obtain ⟨e4, ⟨f_30, f_31, f_32, f_33⟩, hj_16⟩ := idx_bind hj_16
       iterate 3 refine oo ?_
       refine oo ?_ (by intro K k; simp (disch := omega) only [go_sem, f_32, ↓reduceIte]; exact k)
       obtain ⟨r1, hx_34, hj_16⟩ := bind_some hj_16
       refine cl (m_cocketref02_put_ok out2 e4.Lo _ hx_34) ?_
       refine oo ?_
       refine AOps.nil ?_
       cases hj_16; exact sb
      ·refine AWp.skip ?_
       cases hj_16; exact sb
     ·rintro out4 hj_12; dsimp only at hj_12 ⊢
      refine AWp.reg ?_
      obtain ⟨e5, ⟨f_35, f_36, f_37, f_38⟩, hj_12⟩ := idx_bind hj_12
      iterate 5 refine oo ?_
      refine oo ?_ (by intro K k; simp (disch := omega) only [go_sem, f_37, ↓reduceIte]; exact k)
      obtain ⟨e6, ⟨f_39, f_40, f_41, f_42⟩, hj_12⟩ := idx_bind hj_12
      iterate 3 refine oo ?_
      refine oo ?_ (by intro K k; simp (disch := omega) only [go_sem, f_41, ↓reduceIte]; exact k)
      obtain ⟨r2, hx_43, hj_12⟩ := bind_some hj_12
      refine cl (m_cocketref02_put_ok out4 e6.Hi _ hx_43) ?_
      refine oo ?_
      refine AOps.nil ?_
      cases hj_12; exact sb
    ·refine AWp.skip ?_
     cases hj_12; exact sb
   ·rintro out3 hb_6; dsimp only at hb_6 ⊢
    refine AWp.reg ?_
    iterate 3 refine oo ?_
    refine AOps.nil ?_
    exact ln hb_6 sb
  ·refine AWp.exit ?_
   refine lx hb_6 fun hx => ?_; cases hx; try dsimp only at h2_5
   cases h2_5; exact sb
 ·rintro out1 h; dsimp only at h ⊢
  refine sg fun K k => ?_
  iterate 2 refine oo ?_
  refine AOps.nil (k _ ?_)
  refine AWp.ret ?_
  cases h; exact rt
end Go.Pv.Tryd

namespace Go.Pv.Tryd
open Go.Proofs Go.Pv
theorem m_cocketref02_Pieces_ok (k1 : Int) (t1 : (List Rule)) (most1 : Int) (r : Int) (h : m_cocketref02_Pieces k1 t1 most1 = some r) : PureFn Tryd.prog G 45 [.d (.int .i64 k1), .d (.imm 2 (lenc Rule.pd t1)), .d (.int .i64 most1)] (.d (.int .i64 r)) := by
 unfold m_cocketref02_Pieces at h
 refine pf Tryd.func45 Tryd.ntmps45 ?_
 refine sg fun K k => ?_
 refine oo ?_
 refine AOps.nil (k _ ?_)
 refine AWp.seq fun _ K_1 => ?_
 refine sg fun K k => ?_
 iterate 2 refine oo ?_
 obtain ⟨r1, hx_2, h⟩ := bind_some h
 refine cl (m_cocketref02_Good_ok k1 t1 _ hx_2) ?_
 refine oo ?_
 refine AOps.nil (k _ ?_)
 refine cd h (fun h => ?_) (fun h => ?_)
 ·refine sg fun K k => ?_
  refine oo ?_
  refine AOps.nil (k _ ?_)
  refine AWp.ret ?_
  cases h; exact rt
 ·refine AWp.skip ?_
  refine K_1 _ ?_
  refine sg fun K k => ?_
  refine oo ?_
  refine AOps.nil (k _ ?_)
  refine jn (α := Int) [] [] (fun i t => (7, .d (.int .i64 i)) :: t) (fun i t => t) h ?_ ?_
  ·intro _ hj_5
   refine sg fun K k => ?_
   refine oo ?_
   refine AOps.nil (k _ ?_)
   refine AWp.block ?_
   obtain ⟨x_10, hl_7, h2_8⟩ := bind_some hj_5
   refine lp (S := (Int × Int)) [0, 1, 2] [] (fun i t => (7, .d (.int .i64 i.1)) :: (8, .d (.int .i64 i.2)) :: t) (fun i t => t) hl_7 ?_ ?_; exact sb; clear hl_7
   rintro ⟨out2, m1⟩ _ hb_9; unfold m_cocketref02_Pieces_l1 at hb_9; try dsimp only at hb_9
   try dsimp only
   refine AWp.seq fun _ K_12 => ?_
   refine sg fun K k => ?_
   iterate 4 refine oo ?_
   refine ct 4 [0, 1, 2, 7, 8] [] (fun  t => (20, .d (.bool ((decide (m1 < k1)) && (decide (out2 < most1))))) :: t) ?_ ?_
   ·rcases bt (decide (m1 < k1)) with hg_14 | hg_14
    ·rw [hg_14]
     iterate 4 refine oo ?_
     refine AOps.nil ?_
     exact sb
    ·rw [hg_14]
     iterate 4 refine oo ?_
     refine AOps.nil ?_
     exact sb
   refine AOps.nil (k _ ?_)
   refine cd hb_9 (fun hb_9 => ?_) (fun hb_9 => ?_)
   ·refine AWp.skip ?_
    refine K_12 _ ?_
    refine AWp.seq fun _ K_16 => ?_
    refine AWp.block ?_
    refine AWp.reg ?_
    iterate 4 refine oo ?_
    obtain ⟨r2, hx_17, hb_9⟩ := bind_some hb_9
    refine cl (m_cocketref02_all_ok t1 _ hx_17) ?_
    obtain ⟨r3, hx_18, hb_9⟩ := bind_some hb_9
    refine cl (m_cocketref02_cuts_ok t1 m1 r2 _ hx_18) ?_
    iterate 3 refine oo ?_
    refine AOps.nil ?_
    refine K_16 _ ?_
    refine AWp.reg ?_
    iterate 3 refine oo ?_
    refine AOps.nil ?_
    exact ln hb_9 sb
   ·refine AWp.exit ?_
    refine lx hb_9 fun hx => ?_; cases hx; try dsimp only at h2_8
    cases h2_8; exact sb
  ·rintro out1 h; dsimp only at h ⊢
   refine sg fun K k => ?_
   iterate 2 refine oo ?_
   refine AOps.nil (k _ ?_)
   refine AWp.ret ?_
   cases h; exact rt
end Go.Pv.Tryd

namespace Go.Pv.Tryd
open Go.Proofs Go.Pv
theorem m_cocketlaw02_few_ok (k1 : Int) (t1 : (List Rule)) (r : Bool) (h : m_cocketlaw02_few k1 t1 = some r) : PureFn Tryd.prog G 18 [.d (.int .i64 k1), .d (.imm 2 (lenc Rule.pd t1))] (.d (.bool r)) := by
 unfold m_cocketlaw02_few at h
 refine pf Tryd.func18 Tryd.ntmps18 ?_
 refine sg fun K k => ?_
 refine oo ?_
 refine AOps.nil (k _ ?_)
 refine jm (ι := Unit) [0, 1] [] (fun i t => t) (fun i t => t) .inl h ?_ ?_
 ·intro _ hj_2 h
  refine sg fun K k => ?_
  refine oo ?_
  refine AOps.nil (k _ ?_)
  refine AWp.block ?_
  obtain ⟨x_7, hl_4, h2_5⟩ := bind_some hj_2
  refine lp (S := Int) [0, 1] [] (fun i t => (5, .d (.int .i64 i)) :: t) (fun i t => t) hl_4 ?_ ?_; exact sb; clear hl_4
  rintro i1 _ hb_6; unfold m_cocketlaw02_few_l1 at hb_6; try dsimp only at hb_6
  try dsimp only
  refine AWp.seq fun _ K_9 => ?_
  refine sg fun K k => ?_
  iterate 4 refine oo ?_
  refine AOps.nil (k _ ?_)
  refine cd hb_6 (fun hb_6 => ?_) (fun hb_6 => ?_)
  ·refine AWp.skip ?_
   refine K_9 _ ?_
   refine AWp.seq fun _ K_11 => ?_
   refine AWp.block ?_
   refine sg fun K k => ?_
   iterate 3 refine oo ?_
   obtain ⟨b1, hc_12, hb_6⟩ := bind_some hb_6
   refine ct 8 [0, 1, 5] [] (fun  t => (22, .d (.bool b1)) :: t) ?_ ?_
   ·rcases bt (decide (40 ≤ i1)) with hg_17 | hg_17
    ·rw [hg_17]
     rw [hg_17, cond_true] at hc_12
     iterate 8 refine oo ?_
     refine AOps.nil ?_
     cases hc_12
     exact sb
    ·rw [hg_17]
     rw [hg_17, cond_false] at hc_12
     obtain ⟨e1, ⟨f_13, f_14, f_15, f_16⟩, hc_12⟩ := idx_bind hc_12
     iterate 4 refine oo ?_
     refine oo ?_ (by intro K k; simp (disch := omega) only [go_sem, f_15, ↓reduceIte]; exact k)
     iterate 3 refine oo ?_
     refine AOps.nil ?_
     cases hc_12
     exact sb
   refine AOps.nil (k _ ?_)
   refine cd hb_6 (fun hb_6 => ?_) (fun hb_6 => ?_)
   ·refine sg fun K k => ?_
    refine oo ?_
    refine AOps.nil (k _ ?_)
    refine AWp.ret ?_
    refine lx hb_6 fun hx => ?_; cases hx; try dsimp only at h2_5
    cases h2_5; try dsimp only at h
    cases h; exact rt
   ·refine AWp.skip ?_
    refine K_11 _ ?_
    refine AWp.reg ?_
    iterate 3 refine oo ?_
    refine AOps.nil ?_
    exact ln hb_6 sb
  ·refine AWp.exit ?_
   refine lx hb_6 fun hx => ?_; cases hx; try dsimp only at h2_5
   exact ln h2_5 sb
 ·rintro _ h; dsimp only at h ⊢
  refine sg fun K k => ?_
  iterate 2 refine oo ?_
  obtain ⟨r1, hx_19, h⟩ := bind_some h
  refine cl (m_cocketref02_Pieces_ok k1 t1 30000 _ hx_19) ?_
  iterate 2 refine oo ?_
  refine AOps.nil (k _ ?_)
  refine AWp.ret ?_
  cases h; exact rt
end Go.Pv.Tryd

namespace Go.Pv.Tryd
open Go.Proofs Go.Pv
theorem m_cocketlaw02_three_ok (r : (List Rule)) (h : m_cocketlaw02_three = some r) : PureFn Tryd.prog G 46 [] (.d (.imm 2 (lenc Rule.pd r))) := by
 unfold m_cocketlaw02_three at h
 refine pf Tryd.func46 Tryd.ntmps46 ?_
 refine sg fun K k => ?_
 refine oo ?_
 refine AOps.nil (k _ ?_)
 refine sg fun K k => ?_
 refine oo ?_
 refine ol ?_
 iterate 2 refine oo ?_
 refine ol ?_
 iterate 2 refine oo ?_
 refine ol ?_
 refine oo ?_
 refine ol ?_
 refine oo ?_
 refine AOps.nil (k _ ?_)
 refine AWp.ret ?_
 cases h; exact rt
end Go.Pv.Tryd

namespace Go.Pv.Tryd
open Go.Proofs Go.Pv
theorem m_tariff_marks_ok (k1 : Int) (r : Bool) (h : m_tariff_marks k1 = some r) : PureFn Tryd.prog G 66 [.d (.int .i64 k1)] (.d (.bool r)) := by
 unfold m_tariff_marks at h
 refine pf Tryd.func66 Tryd.ntmps66 ?_
 refine sg fun K k => ?_
 refine oo ?_
 refine AOps.nil (k _ ?_)
 refine sg fun K k => ?_
 iterate 3 refine oo ?_
 refine ct 3 [] [] (fun  t => (8, .d (.bool ((decide (1 ≤ k1)) && (decide (k1 ≤ 4))))) :: t) ?_ ?_
 ·rcases bt (decide (1 ≤ k1)) with hg_2 | hg_2
  ·rw [hg_2]
   iterate 3 refine oo ?_
   refine AOps.nil ?_
   exact sb
  ·rw [hg_2]
   iterate 3 refine oo ?_
   refine AOps.nil ?_
   exact sb
 refine oo ?_
 refine AOps.nil (k _ ?_)
 refine AWp.ret ?_
 cases h; exact rt
end Go.Pv.Tryd

namespace Go.Pv.Tryd
open Go.Proofs Go.Pv
theorem m_tariff_fine_1_ok (b1 : Band) (r : Bool) (h : m_tariff_fine_1 b1 = some r) : PureFn Tryd.prog G 103 [.d (.agg [(.int .i64 b1.Lo), (.int .i64 b1.Hi)])] (.d (.bool r)) := by
 unfold m_tariff_fine_1 at h
 refine pf Tryd.func103 Tryd.ntmps103 ?_
 refine sg fun K k => ?_
 iterate 2 refine oo ?_
 refine AOps.nil (k _ ?_)
 refine sg fun K k => ?_
 iterate 4 refine oo ?_
 refine ct 6 [1] [1000] (fun  t => (12, .d (.bool ((decide (b1.Lo < 0)) || (decide (b1.Hi ≤ b1.Lo))))) :: t) ?_ ?_
 ·rcases bt (decide (b1.Lo < 0)) with hg_2 | hg_2
  ·rw [hg_2]
   iterate 6 refine oo ?_
   refine AOps.nil ?_
   exact sb
  ·rw [hg_2]
   iterate 6 refine oo ?_
   refine AOps.nil ?_
   exact sb
 refine oo ?_
 refine ct 4 [] [] (fun  t => (17, .d (.bool (((decide (b1.Lo < 0)) || (decide (b1.Hi ≤ b1.Lo))) || (decide (1000 < b1.Hi))))) :: t) ?_ ?_
 ·rcases bt ((decide (b1.Lo < 0)) || (decide (b1.Hi ≤ b1.Lo))) with hg_4 | hg_4
  ·rw [hg_4]
   iterate 4 refine oo ?_
   refine AOps.nil ?_
   exact sb
  ·rw [hg_4]
   iterate 4 refine oo ?_
   refine AOps.nil ?_
   exact sb
 refine oo ?_
 refine AOps.nil (k _ ?_)
 refine AWp.ret ?_
 cases h; exact rt
end Go.Pv.Tryd

namespace Go.Pv.Tryd
open Go.Proofs Go.Pv
theorem m_slices_IndexFunc_113_f103_ok (s1 : (List Band)) (r : Int) (h : m_slices_IndexFunc_113_f103 s1 = some r) : PureFn Tryd.prog G 113 [.d (.imm 2 (lenc Band.pd s1)), .d (.fn (.func 103))] (.d (.int .i64 r)) := by
 unfold m_slices_IndexFunc_113_f103 at h
 refine pf Tryd.func113 Tryd.ntmps113 ?_
 refine sg fun K k => ?_
 refine oo ?_
 refine AOps.nil (k _ ?_)
 refine jm (ι := Unit) [] [] (fun i t => t) (fun i t => t) .inl h ?_ ?_
 ·intro _ hj_2 h
  refine sg fun K k => ?_
  iterate 3 refine oo ?_
  refine AOps.nil (k _ ?_)
  refine AWp.block ?_
  obtain ⟨x_7, hl_4, h2_5⟩ := bind_some hj_2
  refine lp (S := Int) [0, 1, 7] [] (fun i t => (8, .d (.int .i64 i)) :: t) (fun i t => t) hl_4 ?_ ?_; exact sb; clear hl_4
  rintro v1 _ hb_6; unfold m_slices_IndexFunc_113_f103_l1 at hb_6; try dsimp only at hb_6
  try dsimp only
  refine sg fun K k => ?_
  refine oo ?_
  refine AOps.nil (k _ ?_)
  refine AWp.seq fun _ K_9 => ?_
  refine cd hb_6 (fun hb_6 => ?_) (fun hb_6 => ?_)
  ·refine AWp.skip ?_
   refine K_9 _ ?_
   refine AWp.seq fun _ K_11 => ?_
   refine AWp.block ?_
   refine sg fun K k => ?_
   iterate 2 refine oo ?_
   refine AOps.nil (k _ ?_)
   refine sg fun K k => ?_
   obtain ⟨e1, ⟨f_12, f_13, f_14, f_15⟩, hb_6⟩ := idx_bind hb_6
   iterate 4 refine oo ?_
   refine oo ?_ (by intro K k; simp (disch := omega) only [go_sem, f_14, ↓reduceIte]; exact k)
   obtain ⟨r1, hx_16, hb_6⟩ := bind_some hb_6
   refine clV (m_tariff_fine_1_ok e1 _ hx_16) ?_
   refine AOps.nil (k _ ?_)
   refine cd hb_6 (fun hb_6 => ?_) (fun hb_6 => ?_)
   ·refine sg fun K k => ?_
    iterate 2 refine oo ?_
    refine AOps.nil (k _ ?_)
    refine AWp.ret ?_
    refine lx hb_6 fun hx => ?_; cases hx; try dsimp only at h2_5
    cases h2_5; try dsimp only at h
    cases h; exact rt
   ·refine AWp.skip ?_
    refine K_11 _ ?_
    refine AWp.reg ?_
    iterate 2 refine oo ?_
    refine AOps.nil ?_
    exact ln hb_6 sb
  ·refine AWp.exit ?_
   refine lx hb_6 fun hx => ?_; cases hx; try dsimp only at h2_5
   exact ln h2_5 sb
 ·rintro _ h; dsimp only at h ⊢
  refine sg fun K k => ?_
  refine oo ?_
  refine AOps.nil (k _ ?_)
  refine AWp.ret ?_
  cases h; exact rt
end Go.Pv.Tryd

namespace Go.Pv.Tryd
open Go.Proofs Go.Pv
theorem m_slices_ContainsFunc_104_f103_ok (s1 : (List Band)) (r : Bool) (h : m_slices_ContainsFunc_104_f103 s1 = some r) : PureFn Tryd.prog G 104 [.d (.imm 2 (lenc Band.pd s1)), .d (.fn (.func 103))] (.d (.bool r)) := by
 unfold m_slices_ContainsFunc_104_f103 at h
 refine pf Tryd.func104 Tryd.ntmps104 ?_
 refine sg fun K k => ?_
 refine oo ?_
 refine AOps.nil (k _ ?_)
 refine sg fun K k => ?_
 iterate 2 refine oo ?_
 obtain ⟨r1, hx_1, h⟩ := bind_some h
 refine clC (m_slices_IndexFunc_113_f103_ok s1 _ hx_1) ?_
 iterate 2 refine oo ?_
 refine AOps.nil (k _ ?_)
 refine AWp.ret ?_
 cases h; exact rt
end Go.Pv.Tryd

namespace Go.Pv.Tryd
open Go.Proofs Go.Pv
theorem m_tariff_fine_ok (k1 : Int) (r1 : Rule) (r : Bool) (h : m_tariff_fine k1 r1 = some r) : PureFn Tryd.prog G 78 [.d (.int .i64 k1), .d (.agg [(.imm 2 (lenc Band.pd r1.Bands)), (.int .i64 r1.Code)])] (.d (.bool r)) := by
 unfold m_tariff_fine at h
 refine pf Tryd.func78 Tryd.ntmps78 ?_
 refine sg fun K k => ?_
 iterate 2 refine oo ?_
 refine AOps.nil (k _ ?_)
 refine sg fun K k => ?_
 refine oo ?_
 refine AOps.nil (k _ ?_)
 refine sg fun K k => ?_
 iterate 6 refine oo ?_
 refine ct 4 [3, 5] [1000] (fun  t => (15, .d (.bool ((decide ((r1.Bands.length : Int) = k1)) && (decide (0 ≤ r1.Code))))) :: t) ?_ ?_
 ·rcases bt (decide ((r1.Bands.length : Int) = k1)) with hg_2 | hg_2
  ·rw [hg_2]
   iterate 4 refine oo ?_
   refine AOps.nil ?_
   exact sb
  ·rw [hg_2]
   iterate 4 refine oo ?_
   refine AOps.nil ?_
   exact sb
 refine oo ?_
 refine ct 4 [3, 5] [1000] (fun  t => (20, .d (.bool (((decide ((r1.Bands.length : Int) = k1)) && (decide (0 ≤ r1.Code))) && (decide (r1.Code ≤ 99))))) :: t) ?_ ?_
 ·rcases bt ((decide ((r1.Bands.length : Int) = k1)) && (decide (0 ≤ r1.Code))) with hg_4 | hg_4
  ·rw [hg_4]
   iterate 4 refine oo ?_
   refine AOps.nil ?_
   exact sb
  ·rw [hg_4]
   iterate 4 refine oo ?_
   refine AOps.nil ?_
   exact sb
 refine oo ?_
 obtain ⟨b1, hc_5, h⟩ := bind_some h
 refine ct 6 [] [] (fun  t => (27, .d (.bool b1)) :: t) ?_ ?_
 ·rcases bt (((decide ((r1.Bands.length : Int) = k1)) && (decide (0 ≤ r1.Code))) && (decide (r1.Code ≤ 99))) with hg_7 | hg_7
  ·rw [hg_7]
   rw [hg_7, cond_true] at hc_5
   iterate 3 refine oo ?_
   obtain ⟨r2, hx_6, hc_5⟩ := bind_some hc_5
   refine clC (m_slices_ContainsFunc_104_f103_ok r1.Bands _ hx_6) ?_
   iterate 2 refine oo ?_
   refine AOps.nil ?_
   cases hc_5
   exact sb
  ·rw [hg_7]
   rw [hg_7, cond_false] at hc_5
   iterate 6 refine oo ?_
   refine AOps.nil ?_
   cases hc_5
   exact sb
 refine oo ?_
 refine AOps.nil (k _ ?_)
 refine AWp.ret ?_
 cases h; exact rt
end Go.Pv.Tryd

namespace Go.Pv.Tryd
open Go.Proofs Go.Pv
theorem m_tariff_checked_1_c_ok (r1 : Rule) (k1 : Int) (r : Bool) (h : m_tariff_checked_1_c r1 k1 = some r) : PureFn Tryd.prog G 77 [.d (.agg [(.imm 2 (lenc Band.pd r1.Bands)), (.int .i64 r1.Code)]), .dptr 1 [(.int .i64 k1)] 0 0] (.d (.bool r)) := by
 unfold m_tariff_checked_1_c at h
 refine pf Tryd.func77 Tryd.ntmps77 ?_
 refine sg fun K k => ?_
 iterate 2 refine oo ?_
 refine AOps.nil (k _ ?_)
 refine sg fun K k => ?_
 iterate 2 refine oo ?_
 obtain ⟨r2, hx_1, h⟩ := bind_some h
 refine cl (m_tariff_fine_ok k1 r1 _ hx_1) ?_
 iterate 2 refine oo ?_
 refine AOps.nil (k _ ?_)
 refine AWp.ret ?_
 cases h; exact rt
end Go.Pv.Tryd

namespace Go.Pv.Tryd
open Go.Proofs Go.Pv
theorem m_slices_IndexFunc_99_f77_ok (s1 : (List Rule)) (f1 : Int) (r : Int) (h : m_slices_IndexFunc_99_f77 s1 f1 = some r) : PureFn Tryd.prog G 99 [.d (.imm 2 (lenc Rule.pd s1)), .func (.func 77) [.dptr 1 [(.int .i64 f1)] 0 0]] (.d (.int .i64 r)) := by
 unfold m_slices_IndexFunc_99_f77 at h
 refine pf Tryd.func99 Tryd.ntmps99 ?_
 refine sg fun K k => ?_
 refine oo ?_
 refine AOps.nil (k _ ?_)
 refine jm (ι := Unit) [] [] (fun i t => t) (fun i t => t) .inl h ?_ ?_
 ·intro _ hj_2 h
  refine sg fun K k => ?_
  iterate 3 refine oo ?_
  refine AOps.nil (k _ ?_)
  refine AWp.block ?_
  obtain ⟨x_7, hl_4, h2_5⟩ := bind_some hj_2
  refine lp (S := Int) [0, 1, 7] [] (fun i t => (8, .d (.int .i64 i)) :: t) (fun i t => t) hl_4 ?_ ?_; exact sb; clear hl_4
  rintro v1 _ hb_6; unfold m_slices_IndexFunc_99_f77_l1 at hb_6; try dsimp only at hb_6
  try dsimp only
  refine sg fun K k => ?_
  refine oo ?_
  refine AOps.nil (k _ ?_)
  refine AWp.seq fun _ K_9 => ?_
  refine cd hb_6 (fun hb_6 => ?_) (fun hb_6 => ?_)
  ·refine AWp.skip ?_
   refine K_9 _ ?_
   refine AWp.seq fun _ K_11 => ?_
   refine AWp.block ?_
   refine sg fun K k => ?_
   iterate 2 refine oo ?_
   refine AOps.nil (k _ ?_)
   refine sg fun K k => ?_
   obtain ⟨e1, ⟨f_12, f_13, f_14, f_15⟩, hb_6⟩ := idx_bind hb_6
   iterate 4 refine oo ?_
   refine oo ?_ (by intro K k; simp (disch := omega) only [go_sem, f_14, ↓reduceIte]; exact k)
   obtain ⟨r1, hx_16, hb_6⟩ := bind_some hb_6
   refine clC (m_tariff_checked_1_c_ok e1 f1 _ hx_16) ?_
   refine AOps.nil (k _ ?_)
   refine cd hb_6 (fun hb_6 => ?_) (fun hb_6 => ?_)
   ·refine sg fun K k => ?_
    iterate 2 refine oo ?_
    refine AOps.nil (k _ ?_)
    refine AWp.ret ?_
    refine lx hb_6 fun hx => ?_; cases hx; try dsimp only at h2_5
    cases h2_5; try dsimp only at h
    cases h; exact rt
   ·refine AWp.skip ?_
    refine K_11 _ ?_
    refine AWp.reg ?_
    iterate 2 refine oo ?_
    refine AOps.nil ?_
    exact ln hb_6 sb
  ·refine AWp.exit ?_
   refine lx hb_6 fun hx => ?_; cases hx; try dsimp only at h2_5
   exact ln h2_5 sb
 ·rintro _ h; dsimp only at h ⊢
  refine sg fun K k => ?_
  refine oo ?_
  refine AOps.nil (k _ ?_)
  refine AWp.ret ?_
  cases h; exact rt
end Go.Pv.Tryd

namespace Go.Pv.Tryd
open Go.Proofs Go.Pv
theorem m_slices_ContainsFunc_76_f77_ok (s1 : (List Rule)) (f1 : Int) (r : Bool) (h : m_slices_ContainsFunc_76_f77 s1 f1 = some r) : PureFn Tryd.prog G 76 [.d (.imm 2 (lenc Rule.pd s1)), .func (.func 77) [.dptr 1 [(.int .i64 f1)] 0 0]] (.d (.bool r)) := by
 unfold m_slices_ContainsFunc_76_f77 at h
 refine pf Tryd.func76 Tryd.ntmps76 ?_
 refine sg fun K k => ?_
 refine oo ?_
 refine AOps.nil (k _ ?_)
 refine sg fun K k => ?_
 iterate 2 refine oo ?_
 obtain ⟨r1, hx_1, h⟩ := bind_some h
 refine clC (m_slices_IndexFunc_99_f77_ok s1 f1 _ hx_1) ?_
 iterate 2 refine oo ?_
 refine AOps.nil (k _ ?_)
 refine AWp.ret ?_
 cases h; exact rt
end Go.Pv.Tryd

namespace Go.Pv.Tryd
open Go.Proofs Go.Pv
theorem m_tariff_checked_ok (k1 : Int) (ts1 : (List (List Rule))) (r : Int) (h : m_tariff_checked k1 ts1 = some r) : PureFn Tryd.prog G 47 [.d (.int .i64 k1), .d (.imm 1 (lenc (slenc 2 Rule.pd) ts1))] (.d (.int .i64 r)) := by
 unfold m_tariff_checked at h
 refine pf Tryd.func47 Tryd.ntmps47 ?_
 refine sg fun K k => ?_
 iterate 2 refine oo ?_
 refine AOps.nil (k _ ?_)
 refine AWp.seq fun _ K_1 => ?_
 refine sg fun K k => ?_
 refine oo ?_
 obtain ⟨r1, hx_2, h⟩ := bind_some h
 refine cl (m_tariff_marks_ok k1 _ hx_2) ?_
 refine oo ?_
 refine AOps.nil (k _ ?_)
 refine cd h (fun h => ?_) (fun h => ?_)
 ·refine sg fun K k => ?_
  refine oo ?_
  refine AOps.nil (k _ ?_)
  refine AWp.ret ?_
  cases h; exact rt
 ·refine AWp.skip ?_
  refine K_1 _ ?_
  refine jm (ι := Unit) [] [] (fun i t => t) (fun i t => t) .inl h ?_ ?_
  ·intro _ hj_5 h
   refine sg fun K k => ?_
   iterate 3 refine oo ?_
   refine AOps.nil (k _ ?_)
   refine AWp.block ?_
   obtain ⟨x_10, hl_7, h2_8⟩ := bind_some hj_5
   refine lp (S := Int) [10, 11] [] (fun i t => (2, .dptr 1 [(.int .i64 k1)] 0 0) :: (12, .d (.int .i64 i)) :: t) (fun i t => t) hl_7 ?_ ?_; exact sc; clear hl_7
   rintro v1 _ hb_9; unfold m_tariff_checked_l1 at hb_9; try dsimp only at hb_9
   try dsimp only
   refine sg fun K k => ?_
   refine oo ?_
   refine AOps.nil (k _ ?_)
   refine AWp.seq fun _ K_12 => ?_
   refine cd hb_9 (fun hb_9 => ?_) (fun hb_9 => ?_)
   ·refine AWp.skip ?_
    refine K_12 _ ?_
    refine AWp.seq fun _ K_14 => ?_
    refine AWp.block ?_
    refine sg fun K k => ?_
    obtain ⟨e1, ⟨f_15, f_16, f_17, f_18⟩, hb_9⟩ := idx_bind hb_9
    refine oo ?_
    refine oo ?_ (by intro K k; simp (disch := omega) only [go_sem, f_17, ↓reduceIte]; exact k)
    refine oo ?_
    refine AOps.nil (k _ ?_)
    refine AWp.seq fun _ K_19 => ?_
    refine sg fun K k => ?_
    iterate 3 refine oo ?_
    refine AOps.nil (k _ ?_)
    refine cd hb_9 (fun hb_9 => ?_) (fun hb_9 => ?_)
    ·refine sg fun K k => ?_
     refine oo ?_
     refine AOps.nil (k _ ?_)
     refine AWp.ret ?_
     refine lx hb_9 fun hx => ?_; cases hx; try dsimp only at h2_8
     cases h2_8; try dsimp only at h
     cases h; exact rt
    ·refine AWp.skip ?_
     refine K_19 _ ?_
     refine sg fun K k => ?_
     iterate 2 refine oo ?_
     obtain ⟨r2, hx_21, hb_9⟩ := bind_some hb_9
     refine clC (m_slices_ContainsFunc_76_f77_ok e1 k1 _ hx_21) ?_
     refine AOps.nil (k _ ?_)
     refine cd hb_9 (fun hb_9 => ?_) (fun hb_9 => ?_)
     ·refine sg fun K k => ?_
      refine oo ?_
      refine AOps.nil (k _ ?_)
      refine AWp.ret ?_
      refine lx hb_9 fun hx => ?_; cases hx; try dsimp only at h2_8
      cases h2_8; try dsimp only at h
      cases h; exact rt
     ·refine AWp.skip ?_
      refine K_14 _ ?_
      refine AWp.reg ?_
      iterate 2 refine oo ?_
      refine AOps.nil ?_
      exact ln hb_9 sb
   ·refine AWp.exit ?_
    refine lx hb_9 fun hx => ?_; cases hx; try dsimp only at h2_8
    exact ln h2_8 sb
  ·rintro _ h; dsimp only at h ⊢
   refine sg fun K k => ?_
   refine oo ?_
   refine AOps.nil (k _ ?_)
   refine AWp.ret ?_
   cases h; exact rt
end Go.Pv.Tryd

namespace Go.Pv.Tryd
open Go.Proofs Go.Pv
theorem m_tariff_all_ok (t1 : (List Rule)) (r : Int) (h : m_tariff_all t1 = some r) : PureFn Tryd.prog G 58 [.d (.imm 2 (lenc Rule.pd t1))] (.d (.int .u32 r)) := by
 unfold m_tariff_all at h
 refine pf Tryd.func58 Tryd.ntmps58 ?_
 refine sg fun K k => ?_
 refine oo ?_
 refine AOps.nil (k _ ?_)
 refine sg fun K k => ?_
 obtain ⟨hg_1, h⟩ := guardO_some h
 iterate 5 refine oo ?_
 refine AOps.nil (k _ ?_)
 refine AWp.ret ?_
 cases h; exact rt
end Go.Pv.Tryd

namespace Go.Proofs
open Go.Shelf
def Tryd.lays189_ren : Go.Shelf.Ren := ⟨fun | 189 => 105 | 125 => 115 | 257 => 114 | 128 => 127 | 129 => 128 | 294 => 118 | 295 => 119 | 296 => 120 | 297 => 121 | 298 => 122 | 299 => 123 | 216 => 124 | 300 => 125 | 301 => 126 | 328 => 131 | 329 => 132 | 330 => 133 | 331 => 134 | 332 => 135 | 215 => 136 | 343 => 141 | n => n, fun | 28 => 26 | 3 => 3 | 46 => 159 | 0 => 0 | 51 => 94 | 53 => 170 | 4 => 4 | 183 => 163 | 182 => 162 | 131 => 130 | 5 => 5 | 9 => 9 | 218 => 174 | 222 => 178 | 228 => 184 | 229 => 185 | n => n, fun | n => n⟩
theorem Tryd.lays189 : Go.Proofs.Lays.n189 Tryd.prog Tryd.lays189_ren := {
  mixed := by kernel_rfl
  f125 := Tryd.func115.trans (congrArg some (by kernel_rfl))
  f128 := Tryd.func127.trans (congrArg some (by kernel_rfl))
  f129 := Tryd.func128.trans (congrArg some (by kernel_rfl))
  f189 := Tryd.func105.trans (congrArg some (by kernel_rfl))
  f215 := Tryd.func136.trans (congrArg some (by kernel_rfl))
  f216 := Tryd.func124.trans (congrArg some (by kernel_rfl))
  f257 := Tryd.func114.trans (congrArg some (by kernel_rfl))
  f294 := Tryd.func118.trans (congrArg some (by kernel_rfl))
  f295 := Tryd.func119.trans (congrArg some (by kernel_rfl))
  f296 := Tryd.func120.trans (congrArg some (by kernel_rfl))
  f297 := Tryd.func121.trans (congrArg some (by kernel_rfl))
  f298 := Tryd.func122.trans (congrArg some (by kernel_rfl))
  f299 := Tryd.func123.trans (congrArg some (by kernel_rfl))
  f300 := Tryd.func125.trans (congrArg some (by kernel_rfl))
  f301 := Tryd.func126.trans (congrArg some (by kernel_rfl))
  f328 := Tryd.func131.trans (congrArg some (by kernel_rfl))
  f329 := Tryd.func132.trans (congrArg some (by kernel_rfl))
  f330 := Tryd.func133.trans (congrArg some (by kernel_rfl))
  f331 := Tryd.func134.trans (congrArg some (by kernel_rfl))
  f332 := Tryd.func135.trans (congrArg some (by kernel_rfl))
  f343 := Tryd.func141.trans (congrArg some (by kernel_rfl))
  t0 := Tryd.underlying0
  a0 := Tryd.isAgg0
  z0 := Tryd.sizeOf0
  v0 := Tryd.zeroValue0
  t3 := Tryd.underlying3
  a3 := Tryd.isAgg3
  z3 := Tryd.sizeOf3
  v3 := Tryd.zeroValue3
  t4 := Tryd.underlying4
  a4 := Tryd.isAgg4
  z4 := Tryd.sizeOf4
  v4 := Tryd.zeroValue4
  t5 := Tryd.underlying5
  a5 := Tryd.isAgg5
  z5 := Tryd.sizeOf5
  v5 := Tryd.zeroValue5
  t9 := Tryd.underlying9
  a9 := Tryd.isAgg9
  z9 := Tryd.sizeOf9
  v9 := Tryd.zeroValue9
  t28 := Tryd.underlying26
  a28 := Tryd.isAgg26
  z28 := Tryd.sizeOf26
  v28 := Tryd.zeroValue26
  t46 := Tryd.underlying159
  a46 := Tryd.isAgg159
  z46 := Tryd.sizeOf159
  v46 := Tryd.zeroValue159
  t51 := Tryd.underlying94
  a51 := Tryd.isAgg94
  z51 := Tryd.sizeOf94
  v51 := Tryd.zeroValue94
  t53 := Tryd.underlying170
  a53 := Tryd.isAgg170
  z53 := Tryd.sizeOf170
  v53 := Tryd.zeroValue170
  t131 := Tryd.underlying130
  a131 := Tryd.isAgg130
  z131 := Tryd.sizeOf130
  v131 := Tryd.zeroValue130
  t182 := Tryd.underlying162
  a182 := Tryd.isAgg162
  z182 := Tryd.sizeOf162
  v182 := Tryd.zeroValue162
  t183 := Tryd.underlying163
  a183 := Tryd.isAgg163
  z183 := Tryd.sizeOf163
  v183 := Tryd.zeroValue163
  t218 := Tryd.underlying174
  a218 := Tryd.isAgg174
  z218 := Tryd.sizeOf174
  v218 := Tryd.zeroValue174
  t222 := Tryd.underlying178
  a222 := Tryd.isAgg178
  z222 := Tryd.sizeOf178
  v222 := Tryd.zeroValue178
  t228 := Tryd.underlying184
  a228 := Tryd.isAgg184
  z228 := Tryd.sizeOf184
  v228 := Tryd.zeroValue184
  t229 := Tryd.underlying185
  a229 := Tryd.isAgg185
  z229 := Tryd.sizeOf185
  v229 := Tryd.zeroValue185 }
open Go.Sort Go.RowKit in
theorem Tryd.slices_Sort_int (blk off cap : Nat) (zs : List Int) (w : World) (hH : Holds (Value.int .i64) w blk off zs.toArray) (hblk : blk < w.heap.size) (hsz : zs.length < 4611686018427387904) :
    Calls Tryd.prog 105 #[.slice (some ⟨blk, off, none⟩) zs.length cap] w fun e w' =>
      e = .returned (.tuple #[]) ∧ ∃ n os, w' = grow (putRow (Value.int .i64) (Sort.ahead w n) blk off (zs.mergeSort fun x y => decide (x ≤ y)).toArray) os := Any.slices_Sort_int Tryd.lays189 blk off cap zs w hH hblk hsz
def Tryd.laysNm220_ren : Go.Shelf.Ren := ⟨fun | 20 => 106 | n => n, fun | 22 => 26 | 3 => 3 | 4 => 4 | 0 => 0 | n => n, fun | n => n⟩
theorem Tryd.laysNm220 : Go.Proofs.Lays2.n20 Tryd.prog Tryd.laysNm220_ren := {
  mixed := by kernel_rfl
  f20 := Tryd.func106.trans (congrArg some (by kernel_rfl))
  t0 := Tryd.underlying0
  a0 := Tryd.isAgg0
  z0 := Tryd.sizeOf0
  v0 := Tryd.zeroValue0
  t3 := Tryd.underlying3
  a3 := Tryd.isAgg3
  z3 := Tryd.sizeOf3
  v3 := Tryd.zeroValue3
  t4 := Tryd.underlying4
  a4 := Tryd.isAgg4
  z4 := Tryd.sizeOf4
  v4 := Tryd.zeroValue4
  t22 := Tryd.underlying26
  a22 := Tryd.isAgg26
  z22 := Tryd.sizeOf26
  v22 := Tryd.zeroValue26
  i3 := by kernel_rfl }
open Go.RowKit Go.Lib Go.Sort in
theorem Tryd.slices_Compact_int (blk off cap : Nat) (zs : List Int) (w : World) (hH : Holds (Value.int .i64) w blk off zs.toArray) (hsz : zs.length ≤ 9223372036854775807) (hcap : zs.length ≤ cap) :
    Calls Tryd.prog 106 #[.slice (some ⟨blk, off, none⟩) zs.length cap] w fun e w' => e = .returned (.slice (some ⟨blk, off, none⟩) (Lib.compact zs).length cap) ∧ ∃ q, w' = putRow (Value.int .i64) (Sort.ahead w q) blk off (Lib.compact zs ++ List.replicate (zs.length - (Lib.compact zs).length) 0).toArray := Any.slices_Compact_int Tryd.laysNm220 blk off cap zs w hH hsz hcap
open Go.RowKit Go.Lib Go.Sort in
theorem Tryd.slices_Compact_int_empty (a : Option Addr) (cap : Nat) (w : World) :
    Calls Tryd.prog 106 #[.slice a 0 cap] w fun e w' => e = .returned (.slice a 0 cap) ∧ w' = w := Any.slices_Compact_int_empty Tryd.laysNm220 a cap w
open Go.RowKit Go.Sort in
theorem Tryd.slices_Sort_int_none (p : Option Addr) (cap : Nat) (w : World) :
    Calls Tryd.prog 105 #[.slice p 0 cap] w fun e w' => e = .returned (.tuple #[]) ∧ w' = w := Any.slices_Sort_int_none Tryd.lays189 p cap w
end Go.Proofs

namespace Go.Pv
open Go.Lib Go.Sort
theorem compactUpTo_le (d : Array Int) : ∀ m : Nat, (compactUpTo d m).length ≤ m
  | 0 => by simp [compactUpTo]
  | m + 1 => by
    rw [compactUpTo_succ, List.length_append]
    have := compactUpTo_le d m
    split <;> simp <;> omega
theorem compactI_le (l : List Int) : (compactI l).length ≤ l.length := by unfold compactI compact; exact compactUpTo_le _ _
theorem compactP_length (l : List Int) : (compactP l).length = l.length := by
  have := compactI_le l
  unfold compactP; simp; omega
theorem rep_i64 (w : World) (ok : Nat → Prop) (x : Int) : RepD w ok (.int .i64 x) (.int .i64 x) := .int .i64 x
theorem un_i64 (w : World) (X : Nat → Prop) (φ : Nm) (H : Heap) (v : Value) (x : Int) (h : RepV w X φ H v (.d (.int .i64 x))) : v = .int .i64 x := by cases h with | d h => cases h; rfl
namespace Tryd
open Go.Proofs
theorem one_arg {vs : List Value} {p : PV} (h : vs.length = [p].length) : ∃ v, vs = [v] := by
  match vs, h with
  | [v], _ => exact ⟨v, rfl⟩
theorem sort_hand (L : List Int) (hL : L.length ≤ 4294967296) : HandFn Tryd.prog G 105 [.slc 0 0 L.length] 0 3 1 (lenc (PD.int .i64) L) (.tuple []) (lenc (PD.int .i64) (sortI L)) := by
  intro B φ vs h0 h1 h2 h3
  obtain ⟨v, rfl⟩ := one_arg h1
  have hv : RepV B.w0 B.X φ [(0, ⟨3, 1, dl (lenc (PD.int .i64) L)⟩)] v (.slc 0 0 L.length) := h2 0 (by simp)
  have hlen : (lenc (PD.int .i64) (sortI L)).length = (lenc (PD.int .i64) L).length := by simp [lenc, sortI_length]
  generalize hn : L.length = n at hv
  cases hv with
  | slc hx hb hk1 h4 h5 h6 h7 =>
    rename_i cap b x
    obtain ⟨_, rfl⟩ := hget1 hx
    obtain ⟨hH, hlt⟩ := h3.holds (enc := Value.int .i64) (pd := PD.int .i64) un_i64 (fun _ => rfl) hb
    have hc := Tryd.slices_Sort_int b 0 cap L B.w0 hH hlt (by omega)
    rw [hn] at hc
    have e0 : (0 : Nat) * (⟨3, 1, dl (lenc (PD.int .i64) L)⟩ : Row).k = 0 := Nat.zero_mul _
    rw [e0]
    refine (callsIn_wide.2 hc).mono ?_
    rintro e w' ⟨rfl, m, os, rfl⟩
    refine ⟨_, .tuple [], [(0, ⟨3, 1, dl (lenc (PD.int .i64) (sortI L))⟩)], none, φ, rfl, ⟨rfl, rfl, hlen⟩, .tuple rfl (fun i hi => by simp at hi), ?_⟩
    have := h3.putRow (enc := Value.int .i64) (pd := PD.int .i64) (L' := sortI L) rep_i64 (fun _ => rfl) h0 (sortI_length L) hb m os
    unfold sortI at this ⊢
    exact this
  | slc0 hx hb hk1 hp =>
    rename_i x p
    have hL0 : L = [] := List.length_eq_zero_iff.1 hn
    subst hL0
    refine (callsIn_wide.2 (Tryd.slices_Sort_int_none p 0 B.w0)).mono ?_
    rintro e w' ⟨rfl, rfl⟩
    have e1 : sortI [] = [] := List.length_eq_zero_iff.1 (by rw [sortI_length]; rfl)
    refine ⟨_, .tuple [], [(0, ⟨3, 1, dl (lenc (PD.int .i64) (sortI []))⟩)], none, φ, rfl, ⟨rfl, rfl, hlen⟩, .tuple rfl (fun i hi => by simp at hi), ?_⟩
    rw [e1]; exact h3
theorem compact_hand (L : List Int) (hL : L.length ≤ 4294967296) : HandFn Tryd.prog G 106 [.slc 0 0 L.length] 0 3 1 (lenc (PD.int .i64) L) (.slc 0 0 (compactI L).length) (lenc (PD.int .i64) (compactP L)) := by
  intro B φ vs h0 h1 h2 h3
  obtain ⟨v, rfl⟩ := one_arg h1
  have hv : RepV B.w0 B.X φ [(0, ⟨3, 1, dl (lenc (PD.int .i64) L)⟩)] v (.slc 0 0 L.length) := h2 0 (by simp)
  have hlen : (lenc (PD.int .i64) (compactP L)).length = (lenc (PD.int .i64) L).length := by simp [lenc, compactP_length]
  have hle := compactI_le L
  generalize hn : L.length = n at hv
  cases hv with
  | slc hx hb hk1 h4 h5 h6 h7 =>
    rename_i cap b x
    obtain ⟨_, rfl⟩ := hget1 hx
    obtain ⟨hH, hlt⟩ := h3.holds (enc := Value.int .i64) (pd := PD.int .i64) un_i64 (fun _ => rfl) hb
    have hc := Tryd.slices_Compact_int b 0 cap L B.w0 hH (by omega) (by omega)
    rw [hn] at hc
    have e0 : (0 : Nat) * (⟨3, 1, dl (lenc (PD.int .i64) L)⟩ : Row).k = 0 := Nat.zero_mul _
    rw [e0]
    refine (callsIn_wide.2 hc).mono ?_
    rintro e w' ⟨rfl, m, rfl⟩
    have hs := h3.putRow (enc := Value.int .i64) (pd := PD.int .i64) (L' := compactP L) rep_i64 (fun _ => rfl) h0 (compactP_length L) hb m #[]
    have eg : ∀ w : World, grow w #[] = w := fun w => by simp [grow]
    rw [eg] at hs
    have hx' : hget ([(0, ⟨3, 1, dl (lenc (PD.int .i64) (compactP L))⟩)] : Heap) 0 = some ⟨3, 1, dl (lenc (PD.int .i64) (compactP L))⟩ := rfl
    have hll : (dl (lenc (PD.int .i64) (compactP L))).length = L.length := by simp [dl, lenc, compactP_length]
    have hll0 : (dl (lenc (PD.int .i64) L)).length = L.length := by simp [dl, lenc]
    dsimp only at h4 h6 h7
    rw [hll0] at h4 h6
    refine ⟨_, .slc 0 0 (compactI L).length, [(0, ⟨3, 1, dl (lenc (PD.int .i64) (compactP L))⟩)], none, φ, rfl, ⟨rfl, rfl, hlen⟩, ?_, ?_⟩
    · have hr : RepV (Sort.putRow (Value.int .i64) (Sort.ahead B.w0 m) b 0 (compactP L).toArray) B.X φ [(0, ⟨3, 1, dl (lenc (PD.int .i64) (compactP L))⟩)] (.slice (some ⟨b, 0 * (⟨3, 1, dl (lenc (PD.int .i64) (compactP L))⟩ : Row).k, none⟩) (compactI L).length cap) (.slc 0 0 (compactI L).length) :=
        .slc hx' hb (Nat.le_refl 1) (by dsimp only; rw [hll]; omega) (by omega) (by dsimp only; rw [hll]; omega) (fun c e f hh => by
          rw [heap_putRow, if_pos rfl] at hh
          obtain ⟨ob, ho1, ho2⟩ := Option.map_eq_some_iff.1 hh
          cases ob with
          | cells c0 e0 f0 =>
            simp only [onCells, Obj.cells.injEq] at ho2
            have := h7 c0 e0 f0 ho1
            rw [← ho2.1]
            simpa [putCells] using this
          | _ => simp [onCells] at ho2)
      rw [Nat.zero_mul] at hr
      unfold compactP compactI at hr ⊢
      rw [hn] at hr ⊢
      exact hr
    · unfold compactP compactI at hs ⊢
      rw [hn] at hs ⊢
      exact hs
  | slc0 hx hb hk1 hp =>
    rename_i x p
    have hL0 : L = [] := List.length_eq_zero_iff.1 hn
    subst hL0
    refine (callsIn_wide.2 (Tryd.slices_Compact_int_empty p 0 B.w0)).mono ?_
    rintro e w' ⟨rfl, rfl⟩
    have e1 : compactP [] = [] := List.length_eq_zero_iff.1 (by rw [compactP_length]; rfl)
    have e2 : (compactI []).length = 0 := by have := compactI_le []; simp at this; simp [this]
    refine ⟨_, .slc 0 0 (compactI []).length, [(0, ⟨3, 1, dl (lenc (PD.int .i64) (compactP []))⟩)], none, φ, rfl, ⟨rfl, rfl, hlen⟩, ?_, ?_⟩
    · rw [e1, e2]; exact .slc0 hx hb hk1 hp
    · rw [e1]; exact h3
end Tryd
end Go.Pv

namespace Go.Pv.Tryd
open Go.Proofs Go.Pv
theorem m_tariff_cuts_ok (mark1 : Int) (ts1 : (List (List Rule))) (r : (List Int)) (h : m_tariff_cuts mark1 ts1 = some r) : PureFn Tryd.prog G 81 [.d (.int .i64 mark1), .d (.imm 1 (lenc (slenc 2 Rule.pd) ts1))] (.d (.imm 1 (lenc (PD.int .i64) r))) := by
 unfold m_tariff_cuts at h
 refine pf Tryd.func81 Tryd.ntmps81 ?_
 refine sg fun K k => ?_
 refine oo ?_
 refine AOps.nil (k _ ?_)
 refine sg fun K k => ?_
 iterate 2 refine oo ?_
 refine AOps.nil (k _ ?_)
 refine jn (α := (List Int)) [] [] (fun i t => (5, .slc 1000 0 i.length) :: t) (fun i t => (1000, ⟨3, 1, dl (lenc (PD.int .i64) i)⟩) :: t) h ?_ ?_
 ·intro _ hj_2
  refine sg fun K k => ?_
  iterate 3 refine oo ?_
  refine AOps.nil (k _ ?_)
  refine AWp.block ?_
  obtain ⟨x_7, hl_4, h2_5⟩ := bind_some hj_2
  refine lp (S := (Int × (List Int))) [0, 11, 12] [] (fun i t => (5, .slc 1000 0 i.2.length) :: (13, .d (.int .i64 i.1)) :: t) (fun i t => (1000, ⟨3, 1, dl (lenc (PD.int .i64) i.2)⟩) :: t) hl_4 ?_ ?_; exact sb; clear hl_4
  rintro ⟨v1, L2⟩ _ hb_6; unfold m_tariff_cuts_l1 at hb_6; try dsimp only at hb_6
  try dsimp only
  refine sg fun K k => ?_
  refine oo ?_
  refine AOps.nil (k _ ?_)
  refine AWp.seq fun _ K_9 => ?_
  refine cd hb_6 (fun hb_6 => ?_) (fun hb_6 => ?_)
  ·refine AWp.skip ?_
   refine K_9 _ ?_
   refine jn (α := (List Int)) [0, 11, 12, 13] [] (fun i t => (5, .slc 1000 0 i.length) :: t) (fun i t => (1000, ⟨3, 1, dl (lenc (PD.int .i64) i)⟩) :: t) hb_6 ?_ ?_
   ·intro _ hj_12
    refine AWp.block ?_
    refine sg fun K k => ?_
    obtain ⟨e1, ⟨f_13, f_14, f_15, f_16⟩, hj_12⟩ := idx_bind hj_12
    refine oo ?_
    refine oo ?_ (by intro K k; simp (disch := omega) only [go_sem, f_15, ↓reduceIte]; exact k)
    refine oo ?_
    refine AOps.nil (k _ ?_)
    refine sg fun K k => ?_
    iterate 3 refine oo ?_
    refine AOps.nil (k _ ?_)
    refine AWp.block ?_
    obtain ⟨x_21, hl_18, h2_19⟩ := bind_some hj_12
    refine lp (S := (Int × (List Int))) [0, 11, 12, 13, 17, 18] [] (fun i t => (5, .slc 1000 0 i.2.length) :: (19, .d (.int .i64 i.1)) :: t) (fun i t => (1000, ⟨3, 1, dl (lenc (PD.int .i64) i.2)⟩) :: t) hl_18 ?_ ?_; exact sb; clear hl_18
    rintro ⟨v2, L4⟩ _ hb_20; unfold m_tariff_cuts_l2 at hb_20; try dsimp only at hb_20
    try dsimp only
    refine sg fun K k => ?_
    refine oo ?_
    refine AOps.nil (k _ ?_)
    refine AWp.seq fun _ K_23 => ?_
    refine cd hb_20 (fun hb_20 => ?_) (fun hb_20 => ?_)
    ·refine AWp.skip ?_
     refine K_23 _ ?_
     refine AWp.seq fun _ K_25 => ?_
     refine AWp.block ?_
     refine sg fun K k => ?_
     obtain ⟨e2, ⟨f_26, f_27, f_28, f_29⟩, hb_20⟩ := idx_bind hb_20
     refine oo ?_
     refine oo ?_ (by intro K k; simp (disch := omega) only [go_sem, f_28, ↓reduceIte]; exact k)
     iterate 2 refine oo ?_
     refine AOps.nil (k _ ?_)
     refine AWp.draw mo [] trivial ?_
     obtain ⟨e3, ⟨f_30, f_31, f_32, f_33⟩, hb_20⟩ := idx_bind hb_20
     iterate 6 refine dd ?_
     refine dd ?_ (by intro K k; simp (disch := omega) only [go_sem, f_32, ↓reduceIte]; exact k)
     iterate 5 refine dd ?_
     refine dd ?_ (by intro K k; simp (disch := omega) only [go_sem, f_32, ↓reduceIte]; exact k)
     refine ddl ?_
     refine DOps.stop (by kernel_rfl) ?_
     obtain ⟨hg_34, hb_20⟩ := guardO_some hb_20
     iterate 2 refine oo ?_
     refine AOps.nil ?_
     refine K_25 _ ?_
     refine AWp.reg ?_
     iterate 2 refine oo ?_
     refine AOps.nil ?_
     exact ln hb_20 sb
    ·refine AWp.exit ?_
     refine lx hb_20 fun hx => ?_; cases hx; try dsimp only at h2_19
     cases h2_19; exact sb
   ·rintro L3 hb_6; dsimp only at hb_6 ⊢
    refine AWp.reg ?_
    iterate 2 refine oo ?_
    refine AOps.nil ?_
    exact ln hb_6 sb
  ·refine AWp.exit ?_
   refine lx hb_6 fun hx => ?_; cases hx; try dsimp only at h2_5
   cases h2_5; exact sb
 ·rintro L1 h; dsimp only at h ⊢
  refine sg fun K k => ?_
  obtain ⟨hg_35, h⟩ := guardO_some h
  refine oo ?_
  refine clH 1000 (sort_hand L1 hg_35) ?_
  refine AOps.nil (k _ ?_)
  refine sg fun K k => ?_
  obtain ⟨hg_36, h⟩ := guardO_some h
  refine oo ?_
  refine clH 1000 (compact_hand (sortI L1) hg_36) ?_
  refine AOps.sub (τ := ⟨[(43, .d (.imm 1 (lenc (PD.int .i64) (List.take ((compactI (sortI L1)).length) (compactP (sortI L1))))))], [], [], none⟩) sct ?_
  refine oo ?_
  refine AOps.nil (k _ ?_)
  refine jn (α := (List Int)) [] [] (fun i t => (5, .d (.imm 1 (lenc (PD.int .i64) i))) :: t) (fun i t => t) h ?_ ?_
  ·intro _ hj_38
   refine sg fun K k => ?_
   obtain ⟨e4, ⟨f_39, f_40, f_41, f_42⟩, hj_38⟩ := idx_bind hj_38
   try simp only [List.length_append, List.length_set, List.length_replicate, List.length_cons, List.length_nil] at f_40 f_42
   try simp only [Int.reduceToNat] at f_41 f_42
   iterate 2 refine oo ?_
   refine oo ?_ (by intro K k; simp (disch := omega) only [go_sem, f_41, ↓reduceIte]; exact k)
   refine oo ?_
   refine AOps.nil (k _ ?_)
   refine cd hj_38 (fun hj_38 => ?_) (fun hj_38 => ?_)
   ·refine AWp.reg ?_
    obtain ⟨hg_44, hj_38⟩ := guardO_some hj_38
    iterate 3 refine oo ?_
    refine AOps.nil ?_
    cases hj_38; exact sb
   ·refine AWp.skip ?_
    cases hj_38; exact sb
  ·rintro out1 h; dsimp only at h ⊢
   refine sg fun K k => ?_
   iterate 2 refine oo ?_
   refine AOps.nil (k _ ?_)
   refine AWp.ret ?_
   cases h; exact rt
end Go.Pv.Tryd

namespace Go.Pv.Tryd
open Go.Proofs Go.Pv
theorem m_tariff_fits_ok (t1 : (List Rule)) (mark1 : Int) (value1 : Int) (r : Int) (h : m_tariff_fits t1 mark1 value1 = some r) : PureFn Tryd.prog G 82 [.d (.imm 2 (lenc Rule.pd t1)), .d (.int .i64 mark1), .d (.int .i64 value1)] (.d (.int .u32 r)) := by
 unfold m_tariff_fits at h
 refine pf Tryd.func82 Tryd.ntmps82 ?_
 refine sg fun K k => ?_
 refine oo ?_
 refine AOps.nil (k _ ?_)
 refine sg fun K k => ?_
 refine oo ?_
 refine AOps.nil (k _ ?_)
 refine jn (α := Int) [] [] (fun i t => (7, .d (.int .u32 i)) :: t) (fun i t => t) h ?_ ?_
 ·intro _ hj_2
  refine sg fun K k => ?_
  iterate 3 refine oo ?_
  refine AOps.nil (k _ ?_)
  refine AWp.block ?_
  obtain ⟨x_7, hl_4, h2_5⟩ := bind_some hj_2
  refine lp (S := (Int × Int)) [1, 2, 11, 12] [] (fun i t => (7, .d (.int .u32 i.1)) :: (13, .d (.int .i64 i.2)) :: t) (fun i t => t) hl_4 ?_ ?_; exact sb; clear hl_4
  rintro ⟨out2, v1⟩ _ hb_6; unfold m_tariff_fits_l1 at hb_6; try dsimp only at hb_6
  try dsimp only
  refine sg fun K k => ?_
  refine oo ?_
  refine AOps.nil (k _ ?_)
  refine AWp.seq fun _ K_9 => ?_
  refine cd hb_6 (fun hb_6 => ?_) (fun hb_6 => ?_)
  ·refine AWp.skip ?_
   refine K_9 _ ?_
   refine jn (α := Int) [1, 2, 11, 12, 13] [] (fun i t => (7, .d (.int .u32 i)) :: t) (fun i t => t) hb_6 ?_ ?_
   ·intro _ hj_12
    refine AWp.block ?_
    refine sg fun K k => ?_
    obtain ⟨e1, ⟨f_13, f_14, f_15, f_16⟩, hj_12⟩ := idx_bind hj_12
    iterate 2 refine oo ?_
    refine oo ?_ (by intro K k; simp (disch := omega) only [go_sem, f_15, ↓reduceIte]; exact k)
    iterate 3 refine oo ?_
    refine AOps.nil (k _ ?_)
    refine sg fun K k => ?_
    obtain ⟨e2, ⟨f_17, f_18, f_19, f_20⟩, hj_12⟩ := idx_bind hj_12
    iterate 4 refine oo ?_
    refine oo ?_ (by intro K k; simp (disch := omega) only [go_sem, f_19, ↓reduceIte]; exact k)
    iterate 2 refine oo ?_
    refine AOps.nil (k _ ?_)
    refine sg fun K k => ?_
    iterate 5 refine oo ?_
    refine ct 5 [1, 2, 7, 8, 11, 12, 13] [] (fun  t => (32, .d (.bool ((decide (e2.Lo ≤ value1)) && (decide (value1 < e2.Hi))))) :: t) ?_ ?_
    ·rcases bt (decide (e2.Lo ≤ value1)) with hg_22 | hg_22
     ·rw [hg_22]
      iterate 5 refine oo ?_
      refine AOps.nil ?_
      exact sb
     ·rw [hg_22]
      iterate 5 refine oo ?_
      refine AOps.nil ?_
      exact sb
    refine AOps.nil (k _ ?_)
    refine cd hj_12 (fun hj_12 => ?_) (fun hj_12 => ?_)
    ·refine AWp.reg ?_
     obtain ⟨hg_24, hj_12⟩ := guardO_some hj_12
     iterate 5 refine oo ?_
     refine AOps.nil ?_
     cases hj_12; exact sb
    ·refine AWp.skip ?_
     cases hj_12; exact sb
   ·rintro out3 hb_6; dsimp only at hb_6 ⊢
    refine AWp.reg ?_
    iterate 2 refine oo ?_
    refine AOps.nil ?_
    exact ln hb_6 sb
  ·refine AWp.exit ?_
   refine lx hb_6 fun hx => ?_; cases hx; try dsimp only at h2_5
   cases h2_5; exact sb
 ·rintro out1 h; dsimp only at h ⊢
  refine sg fun K k => ?_
  iterate 2 refine oo ?_
  refine AOps.nil (k _ ?_)
  refine AWp.ret ?_
  cases h; exact rt
end Go.Pv.Tryd

namespace Go.Pv.Tryd
open Go.Proofs Go.Pv
theorem m_tariff_set_first_ok (s1 : Int) (r : Int) (h : m_tariff_set_first s1 = some r) : PureFn Tryd.prog G 80 [.d (.int .u32 s1)] (.d (.int .i64 r)) := by
 unfold m_tariff_set_first at h
 refine pf Tryd.func80 Tryd.ntmps80 ?_
 refine sg fun K k => ?_
 refine oo ?_
 refine AOps.nil (k _ ?_)
 refine jm (ι := Unit) [] [] (fun i t => t) (fun i t => t) .inl h ?_ ?_
 ·intro _ hj_2 h
  refine sg fun K k => ?_
  refine oo ?_
  refine AOps.nil (k _ ?_)
  refine AWp.block ?_
  obtain ⟨x_7, hl_4, h2_5⟩ := bind_some hj_2
  refine lp (S := Int) [0] [] (fun i t => (4, .d (.int .i64 i)) :: t) (fun i t => t) hl_4 ?_ ?_; exact sb; clear hl_4
  rintro v1 _ hb_6; unfold m_tariff_set_first_l1 at hb_6; try dsimp only at hb_6
  try dsimp only
  refine sg fun K k => ?_
  refine oo ?_
  refine AOps.nil (k _ ?_)
  refine AWp.seq fun _ K_9 => ?_
  refine cd hb_6 (fun hb_6 => ?_) (fun hb_6 => ?_)
  ·refine AWp.skip ?_
   refine K_9 _ ?_
   refine AWp.seq fun _ K_11 => ?_
   refine AWp.block ?_
   refine sg fun K k => ?_
   iterate 2 refine oo ?_
   refine AOps.nil (k _ ?_)
   refine sg fun K k => ?_
   obtain ⟨hg_12, hb_6⟩ := guardO_some hb_6
   iterate 5 refine oo ?_
   refine AOps.nil (k _ ?_)
   refine cd hb_6 (fun hb_6 => ?_) (fun hb_6 => ?_)
   ·refine sg fun K k => ?_
    iterate 2 refine oo ?_
    refine AOps.nil (k _ ?_)
    refine AWp.ret ?_
    refine lx hb_6 fun hx => ?_; cases hx; try dsimp only at h2_5
    cases h2_5; try dsimp only at h
    cases h; exact rt
   ·refine AWp.skip ?_
    refine K_11 _ ?_
    refine AWp.reg ?_
    iterate 2 refine oo ?_
    refine AOps.nil ?_
    exact ln hb_6 sb
  ·refine AWp.exit ?_
   refine lx hb_6 fun hx => ?_; cases hx; try dsimp only at h2_5
   exact ln h2_5 sb
 ·rintro _ h; dsimp only at h ⊢
  refine sg fun K k => ?_
  refine oo ?_
  refine AOps.nil (k _ ?_)
  refine AWp.ret ?_
  cases h; exact rt
end Go.Pv.Tryd

namespace Go.Pv.Tryd
open Go.Proofs Go.Pv
set_option maxHeartbeats 4000000 in
theorem m_tariff_counts_1_h_ok (n : Nat) : ∀ (o1 : (List Rule)) (o2 : Int) (m1 : (List (Arr3_Int × (List Int)))) (mark1 : Int) (a1 : Int) (r : ((List Int) × (List (Arr3_Int × (List Int))))) (h : m_tariff_counts_1_h n o1 o2 m1 mark1 a1 = some r), ObjFn Tryd.prog G 93 [.d (.int .i64 mark1), .d (.int .u32 a1), .ptr 0 0 0, .ptr 1 0 0, .ptr 2 0 0, .ptr 3 0 0] [(0, ⟨135, 1, [.mp 4]⟩), (1, ⟨22, 1, [.d (.imm 2 (lenc Rule.pd o1))]⟩), (2, ⟨3, 1, [.d (.int .i64 o2)]⟩), (3, ⟨136, 1, [.func (.func 93) [.ptr 0 0 0, .ptr 1 0 0, .ptr 2 0 0, .ptr 3 0 0]]⟩), (4, ⟨135, 0, mels Arr3_Int.pd (slenc 1 (PD.int .i64)) m1⟩)] (.d (.imm 1 (lenc (PD.int .i64) r.1))) [(0, ⟨135, 1, [.mp 4]⟩), (1, ⟨22, 1, [.d (.imm 2 (lenc Rule.pd o1))]⟩), (2, ⟨3, 1, [.d (.int .i64 o2)]⟩), (3, ⟨136, 1, [.func (.func 93) [.ptr 0 0 0, .ptr 1 0 0, .ptr 2 0 0, .ptr 3 0 0]]⟩), (4, ⟨135, 0, mels Arr3_Int.pd (slenc 1 (PD.int .i64)) r.2⟩)] := by
 induction n with
 | zero => intro o1 o2 m1 mark1 a1 r h; cases h
 | succ n ih =>
  intro o1 o2 m1 mark1 a1 r h
  replace h : m_tariff_counts_1_h_b (m_tariff_counts_1_h n) o1 o2 m1 mark1 a1 = some r := h
  unfold m_tariff_counts_1_h_b at h
  refine ObjFn.pf Tryd.func93 Tryd.ntmps93 ?_
  refine sg fun K k => ?_
  refine oo ?_
  refine AOps.nil (k _ ?_)
  refine sg fun K k => ?_
  iterate 6 refine oo ?_
  refine AOps.nil (k _ ?_)
  refine AWp.seq fun _ K_1 => ?_
  refine sg fun K k => ?_
  iterate 2 refine oo ?_
  refine oml (k := (⟨mark1, (IntKind.i64.wrap a1), 0⟩ : Arr3_Int)) (L := m1) (v0 := []) (encV := (slenc 1 (PD.int .i64))) KE121 MU135 ty26 MZ26 (fun _ _ => .imm0 _) ?_
  iterate 5 refine oo ?_
  refine AOps.nil (k _ ?_)
  refine sg fun K k => ?_
  refine oo ?_
  refine AOps.nil (k _ ?_)
  refine cd h (fun h => ?_) (fun h => ?_)
  ·refine sg fun K k => ?_
   iterate 2 refine oo ?_
   refine AOps.nil (k _ ?_)
   refine AWp.ret ?_
   cases h; exact rtO
  ·refine AWp.skip ?_
   refine K_1 _ ?_
   refine sg fun K k => ?_
   obtain ⟨hg_3, h⟩ := guardO_some h
   iterate 5 refine oo ?_
   refine AOps.nil (k _ ?_)
   refine sg fun K k => ?_
   refine oo ?_
   refine AOps.nil (k _ ?_)
   refine jn (α := ((List (Arr3_Int × (List Int))) × (List Int))) [2, 9] [1, 2, 3, 1000] (fun i t => (12, .slc 1001 0 i.2.length) :: t) (fun i t => (0, ⟨135, 1, [.mp 4]⟩) :: (4, ⟨135, 0, mels Arr3_Int.pd (slenc 1 (PD.int .i64)) i.1⟩) :: (1001, ⟨3, 1, dl (lenc (PD.int .i64) i.2)⟩) :: t) h ?_ ?_
   ·intro _ hj_5
    refine sg fun K k => ?_
    iterate 2 refine oo ?_
    refine ol ?_
    obtain ⟨r1, hx_6, hj_5⟩ := bind_some hj_5
    refine cl (m_tariff_cuts_ok mark1 [o1] _ hx_6) ?_
    iterate 2 refine oo ?_
    refine AOps.nil (k _ ?_)
    refine AWp.block ?_
    obtain ⟨x_11, hl_8, h2_9⟩ := bind_some hj_5
    refine lp (S := (Int × Int × (List (Arr3_Int × (List Int))) × (List Int))) [0, 1, 2, 3, 4, 5, 9, 39, 40] [1, 2, 3, 1000] (fun i t => (12, .slc 1001 0 i.2.2.2.length) :: (13, .d (.int .i64 i.1)) :: (41, .d (.int .i64 i.2.1)) :: t) (fun i t => (0, ⟨135, 1, [.mp 4]⟩) :: (4, ⟨135, 0, mels Arr3_Int.pd (slenc 1 (PD.int .i64)) i.2.2.1⟩) :: (1001, ⟨3, 1, dl (lenc (PD.int .i64) i.2.2.2)⟩) :: t) hl_8 ?_ ?_; exact sb; clear hl_8
    rintro ⟨from1, v1, M2, L2⟩ _ hb_10; unfold m_tariff_counts_1_h_l1 at hb_10; try dsimp only at hb_10
    try dsimp only
    refine sg fun K k => ?_
    refine oo ?_
    refine AOps.nil (k _ ?_)
    refine AWp.seq fun _ K_13 => ?_
    refine cd hb_10 (fun hb_10 => ?_) (fun hb_10 => ?_)
    ·refine AWp.skip ?_
     refine K_13 _ ?_
     refine jn (α := (Int × (List (Arr3_Int × (List Int))) × (List Int))) [0, 1, 2, 3, 4, 5, 9, 39, 40, 41] [1, 2, 3, 1000] (fun i t => (12, .slc 1001 0 i.2.2.length) :: (13, .d (.int .i64 i.1)) :: t) (fun i t => (0, ⟨135, 1, [.mp 4]⟩) :: (4, ⟨135, 0, mels Arr3_Int.pd (slenc 1 (PD.int .i64)) i.2.1⟩) :: (1001, ⟨3, 1, dl (lenc (PD.int .i64) i.2.2)⟩) :: t) hb_10 ?_ ?_
     ·intro _ hj_16
      refine AWp.block ?_
      refine sg fun K k => ?_
      obtain ⟨e1, ⟨f_17, f_18, f_19, f_20⟩, hj_16⟩ := idx_bind hj_16
      refine oo ?_
      refine oo ?_ (by intro K k; simp (disch := omega) only [go_sem, f_19, ↓reduceIte]; exact k)
      refine oo ?_
      refine AOps.nil (k _ ?_)
      refine sg fun K k => ?_
      iterate 4 refine oo ?_
      obtain ⟨r2, hx_21, hj_16⟩ := bind_some hj_16
      refine cl (m_tariff_fits_ok o1 mark1 from1 _ hx_21) ?_
      iterate 2 refine oo ?_
      refine AOps.nil (k _ ?_)
      refine jn (α := ((List (Arr3_Int × (List Int))) × (List Int))) [0, 1, 2, 3, 4, 5, 9, 15, 39, 40, 41] [1, 2, 3, 1000] (fun i t => (12, .slc 1001 0 i.2.length) :: t) (fun i t => (0, ⟨135, 1, [.mp 4]⟩) :: (4, ⟨135, 0, mels Arr3_Int.pd (slenc 1 (PD.int .i64)) i.1⟩) :: (1001, ⟨3, 1, dl (lenc (PD.int .i64) i.2)⟩) :: t) hj_16 ?_ ?_
      ·intro _ hj_23
       refine sg fun K k => ?_
       iterate 4 refine oo ?_
       refine AOps.nil (k _ ?_)
       refine cd hj_23 (fun hj_23 => ?_) (fun hj_23 => ?_)
       ·refine sg fun K k => ?_
        iterate 4 refine oo ?_
        obtain ⟨r3, hx_25, hj_23⟩ := bind_some hj_23
        refine clU [(0, 0), (1, 1), (2, 2), (3, 3), (4, 4)] [] (ih o1 o2 M2 (IntKind.i64.wrap (mark1 + 1)) (IntKind.u32.wrap ↑(BitVec.ofInt IntKind.u32.bits a1 &&& BitVec.ofInt IntKind.u32.bits r2).toNat) _ hx_25) ?_
        iterate 2 refine oo ?_
        refine AOps.nil (k _ ?_)
        refine AWp.block ?_
        obtain ⟨x_30, hl_27, h2_28⟩ := bind_some hj_23
        refine lp (S := (Int × (List Int))) [0, 1, 2, 3, 4, 5, 9, 13, 15, 39, 40, 41, 59, 60] [0, 1, 2, 3, 4, 1000] (fun i t => (12, .slc 1001 0 i.2.length) :: (61, .d (.int .i64 i.1)) :: t) (fun i t => (1001, ⟨3, 1, dl (lenc (PD.int .i64) i.2)⟩) :: t) hl_27 ?_ ?_; exact sb; clear hl_27
        rintro ⟨v2, L5⟩ _ hb_29; unfold m_tariff_counts_1_h_l2 at hb_29; try dsimp only at hb_29
        try dsimp only
        refine sg fun K k => ?_
        refine oo ?_
        refine AOps.nil (k _ ?_)
        refine AWp.seq fun _ K_32 => ?_
        refine cd hb_29 (fun hb_29 => ?_) (fun hb_29 => ?_)
        ·refine AWp.skip ?_
         refine K_32 _ ?_
         refine AWp.seq fun _ K_34 => ?_
         refine AWp.block ?_
         refine sg fun K k => ?_
         obtain ⟨e2, ⟨f_35, f_36, f_37, f_38⟩, hb_29⟩ := idx_bind hb_29
         iterate 2 refine oo ?_
         refine oo ?_ (by intro K k; simp (disch := omega) only [go_sem, f_37, ↓reduceIte]; exact k)
         iterate 2 refine oo ?_
         refine AOps.nil (k _ ?_)
         refine AWp.reg ?_
         obtain ⟨e3, ⟨f_39, f_40, f_41, f_42⟩, hb_29⟩ := idx_bind hb_29
         iterate 3 refine oo ?_
         refine oo ?_ (by intro K k; simp (disch := omega) only [go_sem, f_41, ↓reduceIte]; exact k)
         iterate 7 refine oo ?_
         refine oo ?_ (by intro K k; simp (disch := omega) only [go_sem, f_41, ↓reduceIte]; exact k)
         refine AOps.nil ?_
         refine K_34 _ ?_
         refine AWp.reg ?_
         iterate 2 refine oo ?_
         refine AOps.nil ?_
         exact ln hb_29 sb
        ·refine AWp.exit ?_
         refine lx hb_29 fun hx => ?_; cases hx; try dsimp only at h2_28
         cases h2_28; exact sb
       ·refine sg fun K k => ?_
        refine oo ?_
        obtain ⟨r4, hx_43, hj_23⟩ := bind_some hj_23
        refine cl (m_tariff_set_first_ok (IntKind.u32.wrap ↑(BitVec.ofInt IntKind.u32.bits a1 &&& BitVec.ofInt IntKind.u32.bits r2).toNat) _ hx_43) ?_
        refine oo ?_
        refine AOps.nil (k _ ?_)
        refine sg fun K k => ?_
        iterate 2 refine oo ?_
        refine AOps.nil (k _ ?_)
        refine cd hj_23 (fun hj_23 => ?_) (fun hj_23 => ?_)
        ·refine AWp.reg ?_
         obtain ⟨e4, ⟨f_45, f_46, f_47, f_48⟩, hj_23⟩ := idx_bind hj_23
         try simp only [Int.toNat_natCast] at f_47 f_48
         iterate 4 refine oo ?_
         refine oo ?_ (by intro K k; simp (disch := omega) only [go_sem, f_47, Int.toNat_natCast, ↓reduceIte]; exact k)
         iterate 5 refine oo ?_
         refine oo ?_ (by intro K k; simp (disch := omega) only [go_sem, f_47, Int.toNat_natCast, ↓reduceIte]; exact k)
         refine AOps.nil ?_
         cases hj_23; exact sb
        ·refine AWp.reg ?_
         obtain ⟨e5, ⟨f_49, f_50, f_51, f_52⟩, hj_23⟩ := idx_bind hj_23
         iterate 3 refine oo ?_
         refine oo ?_ (by intro K k; simp (disch := omega) only [go_sem, f_51, ↓reduceIte]; exact k)
         iterate 5 refine oo ?_
         refine oo ?_ (by intro K k; simp (disch := omega) only [go_sem, f_51, ↓reduceIte]; exact k)
         refine AOps.nil ?_
         cases hj_23; exact sb
      ·rintro ⟨M4, L4⟩ hj_16; dsimp only at hj_16 ⊢
       refine AWp.reg ?_
       iterate 2 refine oo ?_
       refine AOps.nil ?_
       cases hj_16; exact sb
     ·rintro ⟨from2, M3, L3⟩ hb_10; dsimp only at hb_10 ⊢
      refine AWp.reg ?_
      iterate 2 refine oo ?_
      refine AOps.nil ?_
      exact ln hb_10 sb
    ·refine AWp.exit ?_
     refine lx hb_10 fun hx => ?_; cases hx; try dsimp only at h2_9
     cases h2_9; exact sb
   ·rintro ⟨M1, L1⟩ h; dsimp only at h ⊢
    refine sg fun K k => ?_
    iterate 3 refine oo ?_
    refine AOps.sub (τ := ⟨[(12, .d (.imm 1 (lenc (PD.int .i64) L1))), (103, .mp 4), (104, .d (.agg [(.int .i64 mark1), (.int .i64 (IntKind.i64.wrap a1)), (.int .i64 0)])), (105, .d (.imm 1 (lenc (PD.int .i64) L1)))], [(0, ⟨135, 1, [.mp 4]⟩), (1, ⟨22, 1, [.d (.imm 2 (lenc Rule.pd o1))]⟩), (2, ⟨3, 1, [.d (.int .i64 o2)]⟩), (3, ⟨136, 1, [.func (.func 93) [.ptr 0 0 0, .ptr 1 0 0, .ptr 2 0 0, .ptr 3 0 0]]⟩), (4, ⟨135, 0, mels Arr3_Int.pd (slenc 1 (PD.int .i64)) M1⟩)], [], none⟩) sc ?_
    refine oms (k := (⟨mark1, (IntKind.i64.wrap a1), 0⟩ : Arr3_Int)) (L := M1) (v := L1) (encV := (slenc 1 (PD.int .i64))) KE121 MU135 ?_
    refine AOps.nil (k _ ?_)
    refine sg fun K k => ?_
    iterate 2 refine oo ?_
    refine AOps.nil (k _ ?_)
    refine AWp.ret ?_
    cases h; exact rtO
end Go.Pv.Tryd

namespace Go.Pv.Tryd
open Go.Proofs Go.Pv
theorem lenc_nil_of {α : Type} {f : α → PD} {l : List α} (h : lenc f l = []) : l = [] := by simpa [lenc] using h
theorem clone_92 (l r : List Int) (h : cloneO l = some r) : RowFn Tryd.prog G 92 [.d (.imm 1 (lenc (PD.int .i64) l))] 3 1 (lenc (PD.int .i64) r) := by
  unfold cloneO at h
  split at h
  · rename_i hlen
    cases h
    refine Fn.pf Tryd.func92 Tryd.ntmps92 ?_
    refine sg fun K k => ?_
    refine oo ?_
    refine AOps.nil (k _ ?_)
    refine AWp.seq fun _ K_1 => ?_
    refine sg fun K k => ?_
    refine oo ?_
    refine nt ty26 T26_desc (fun he => ?_) ?_
    · simp only [go_sem, ↓reduceIte]
      refine AOps.nil (k _ ?_)
      refine cdt ?_
      cases lenc_nil_of he
      refine sg fun K k => ?_
      refine oo ?_
      refine AOps.nil (k _ ?_)
      refine AWp.sub (Sub.void 2 3 1 1000 (by rfl) (by rfl) (by decide) (by decide)) ?_
      simp only [eput, hput, ↓reduceIte, Nat.reduceEqDiff]
      refine AWp.ret ?_
      exact rtRow (hn := by rfl)
    · simp only [go_sem, ↓reduceIte]
      refine AOps.nil (k _ ?_)
      refine cdf ?_
      refine AWp.skip ?_
      refine K_1 _ ?_
      refine sg fun K k => ?_
      iterate 4 refine oo ?_
      refine AOps.nil (k _ ?_)
      refine AWp.ret ?_
      exact rtRow (hn := by rw [lenc_length])
  · cases h
theorem clone_73 (l r : List Band) (h : cloneO l = some r) : RowFn Tryd.prog G 73 [.d (.imm 2 (lenc Band.pd l))] 61 2 (lenc Band.pd r) := by
  unfold cloneO at h
  split at h
  · rename_i hlen
    cases h
    refine Fn.pf Tryd.func73 Tryd.ntmps73 ?_
    refine sg fun K k => ?_
    refine oo ?_
    refine AOps.nil (k _ ?_)
    refine AWp.seq fun _ K_1 => ?_
    refine sg fun K k => ?_
    refine oo ?_
    refine nt ty54 T54_desc (fun he => ?_) ?_
    · simp only [go_sem, ↓reduceIte]
      refine AOps.nil (k _ ?_)
      refine cdt ?_
      cases lenc_nil_of he
      refine sg fun K k => ?_
      refine oo ?_
      refine AOps.nil (k _ ?_)
      refine AWp.sub (Sub.void 2 61 2 1000 (by rfl) (by rfl) (by decide) (by decide)) ?_
      simp only [eput, hput, ↓reduceIte, Nat.reduceEqDiff]
      refine AWp.ret ?_
      exact rtRow (hn := by rfl)
    · simp only [go_sem, ↓reduceIte]
      refine AOps.nil (k _ ?_)
      refine cdf ?_
      refine AWp.skip ?_
      refine K_1 _ ?_
      refine sg fun K k => ?_
      iterate 4 refine oo ?_
      refine AOps.nil (k _ ?_)
      refine AWp.ret ?_
      exact rtRow (hn := by rw [lenc_length])
  · cases h
theorem clone_75 (l r : List Rule) (h : cloneO l = some r) : RowFn Tryd.prog G 75 [.d (.imm 2 (lenc Rule.pd l))] 56 2 (lenc Rule.pd r) := by
  unfold cloneO at h
  split at h
  · rename_i hlen
    cases h
    refine Fn.pf Tryd.func75 Tryd.ntmps75 ?_
    refine sg fun K k => ?_
    refine oo ?_
    refine AOps.nil (k _ ?_)
    refine AWp.seq fun _ K_1 => ?_
    refine sg fun K k => ?_
    refine oo ?_
    refine nt ty22 T22_desc (fun he => ?_) ?_
    · simp only [go_sem, ↓reduceIte]
      refine AOps.nil (k _ ?_)
      refine cdt ?_
      cases lenc_nil_of he
      refine sg fun K k => ?_
      refine oo ?_
      refine AOps.nil (k _ ?_)
      refine AWp.sub (Sub.void 2 56 2 1000 (by rfl) (by rfl) (by decide) (by decide)) ?_
      simp only [eput, hput, ↓reduceIte, Nat.reduceEqDiff]
      refine AWp.ret ?_
      exact rtRow (hn := by rfl)
    · simp only [go_sem, ↓reduceIte]
      refine AOps.nil (k _ ?_)
      refine cdf ?_
      refine AWp.skip ?_
      refine K_1 _ ?_
      refine sg fun K k => ?_
      iterate 4 refine oo ?_
      refine AOps.nil (k _ ?_)
      refine AWp.ret ?_
      exact rtRow (hn := by rw [lenc_length])
  · cases h
end Go.Pv.Tryd

namespace Go.Pv.Tryd
open Go.Proofs Go.Pv
theorem m_tariff_counts_ok (k1 : Int) (t1 : (List Rule)) (r : (List Int)) (h : m_tariff_counts k1 t1 = some r) : PureFn Tryd.prog G 60 [.d (.int .i64 k1), .d (.imm 2 (lenc Rule.pd t1))] (.d (.imm 1 (lenc (PD.int .i64) r))) := by
 unfold m_tariff_counts at h
 refine pf Tryd.func60 Tryd.ntmps60 ?_
 refine sg fun K k => ?_
 iterate 3 refine oo ?_
 refine AOps.nil (k _ ?_)
 refine sg fun K k => ?_
 refine omk (α := Arr3_Int) (β := (List Int)) Arr3_Int.pd (slenc 1 (PD.int .i64)) 1002 ?_
 iterate 2 refine oo ?_
 refine AOps.nil (k _ ?_)
 refine sg fun K k => ?_
 refine oo ?_
 refine AOps.nil (k _ ?_)
 refine sg fun K k => ?_
 iterate 2 refine oo ?_
 refine AOps.nil (k _ ?_)
 refine sd mo fun K k => ?_
 iterate 2 refine dd ?_
 obtain ⟨r1, hx_1, h⟩ := bind_some h
 refine dcl (m_tariff_all_ok t1 _ hx_1) ?_
 refine DOps.stop (by kernel_rfl) ?_
 obtain ⟨r2, hx_2, h⟩ := bind_some h
 refine clU [(0, 1003), (1, 1001), (2, 1000), (3, 1004), (4, 1002)] [] (m_tariff_counts_1_h_ok 100 t1 k1 [] 0 r1 _ hx_2) ?_
 obtain ⟨r3, hx_3, h⟩ := bind_some h
 refine clRow 1005 (clone_92 r2.1 _ hx_3) ?_
 refine oo ?_
 refine AOps.nil (k _ ?_)
 refine AWp.ret ?_
 cases h; exact rt
end Go.Pv.Tryd

namespace Go.Pv.Tryd
open Go.Proofs Go.Pv
theorem m_tariff_Dead_ok (k1 : Int) (t1 : (List Rule)) (r : ((List Int) × Int)) (h : m_tariff_Dead k1 t1 = some r) : PureFn Tryd.prog G 30 [.d (.int .i64 k1), .d (.imm 2 (lenc Rule.pd t1))] (.tuple [.d (.imm 1 (lenc (PD.int .i64) r.1)), .d (.int .i64 r.2)]) := by
 unfold m_tariff_Dead at h
 refine pf Tryd.func30 Tryd.ntmps30 ?_
 refine sg fun K k => ?_
 iterate 2 refine oo ?_
 refine AOps.nil (k _ ?_)
 refine AWp.seq fun _ K_1 => ?_
 refine sg fun K k => ?_
 iterate 2 refine oo ?_
 refine ol ?_
 obtain ⟨r1, hx_2, h⟩ := bind_some h
 refine cl (m_tariff_checked_ok k1 [t1] _ hx_2) ?_
 refine oo ?_
 refine AOps.nil (k _ ?_)
 refine sg fun K k => ?_
 iterate 2 refine oo ?_
 refine AOps.nil (k _ ?_)
 refine cd h (fun h => ?_) (fun h => ?_)
 ·refine sg fun K k => ?_
  iterate 3 refine oo ?_
  refine AOps.nil (k _ ?_)
  refine AWp.ret ?_
  cases h; exact rt
 ·refine AWp.skip ?_
  refine K_1 _ ?_
  refine sg fun K k => ?_
  refine oo ?_
  refine AOps.nil (k _ ?_)
  refine AWp.sub (Sub.void 7 3 1 1000 (by rfl) (by rfl) (by decide) (by decide)) ?_
  simp only [eput, hput, reduceCtorEq, ↓reduceIte, Nat.reduceAdd, Nat.reduceMul, Nat.reduceLT, Nat.reduceLeDiff, Nat.reduceEqDiff, Nat.reduceBEq, Int.reduceToNat]
  refine jn (α := (List Int)) [] [] (fun i t => (7, .slc 1000 0 i.length) :: t) (fun i t => (1000, ⟨3, 1, dl (lenc (PD.int .i64) i)⟩) :: t) h ?_ ?_
  ·intro _ hj_5
   refine sg fun K k => ?_
   iterate 2 refine oo ?_
   obtain ⟨r2, hx_6, hj_5⟩ := bind_some hj_5
   refine cl (m_tariff_counts_ok k1 t1 _ hx_6) ?_
   obtain ⟨hg_7, hj_5⟩ := guardO_some hj_5
   iterate 5 refine oo ?_
   refine AOps.nil (k _ ?_)
   refine AWp.block ?_
   obtain ⟨x_12, hl_9, h2_10⟩ := bind_some hj_5
   refine lp (S := (Int × (List Int))) [22, 23] [] (fun i t => (7, .slc 1000 0 i.2.length) :: (24, .d (.int .i64 i.1)) :: t) (fun i t => (1000, ⟨3, 1, dl (lenc (PD.int .i64) i.2)⟩) :: t) hl_9 ?_ ?_; exact sb; clear hl_9
   rintro ⟨v1, L2⟩ _ hb_11; unfold m_tariff_Dead_l1 at hb_11; try dsimp only at hb_11
   try dsimp only
   refine sg fun K k => ?_
   refine oo ?_
   refine AOps.nil (k _ ?_)
   refine AWp.seq fun _ K_14 => ?_
   refine cd hb_11 (fun hb_11 => ?_) (fun hb_11 => ?_)
   ·refine AWp.skip ?_
    refine K_14 _ ?_
    refine jn (α := (List Int)) [22, 23, 24] [] (fun i t => (7, .slc 1000 0 i.length) :: t) (fun i t => (1000, ⟨3, 1, dl (lenc (PD.int .i64) i)⟩) :: t) hb_11 ?_ ?_
    ·intro _ hj_17
     refine AWp.block ?_
     refine sg fun K k => ?_
     obtain ⟨e1, ⟨f_18, f_19, f_20, f_21⟩, hj_17⟩ := idx_bind hj_17
     try simp only [List.length_append, List.length_set, List.length_replicate, List.length_cons, List.length_nil] at f_19 f_21
     iterate 2 refine oo ?_
     refine oo ?_ (by intro K k; simp (disch := omega) only [go_sem, f_20, ↓reduceIte]; exact k)
     iterate 2 refine oo ?_
     refine AOps.nil (k _ ?_)
     refine sg fun K k => ?_
     iterate 2 refine oo ?_
     refine AOps.nil (k _ ?_)
     refine cd hj_17 (fun hj_17 => ?_) (fun hj_17 => ?_)
     ·refine AWp.reg ?_
      iterate 2 refine oo ?_
      refine ol ?_
      obtain ⟨hg_23, hj_17⟩ := guardO_some hj_17
      iterate 2 refine oo ?_
      refine AOps.nil ?_
      cases hj_17; exact sb
     ·refine AWp.skip ?_
      cases hj_17; exact sb
    ·rintro L3 hb_11; dsimp only at hb_11 ⊢
     refine AWp.reg ?_
     iterate 2 refine oo ?_
     refine AOps.nil ?_
     exact ln hb_11 sb
   ·refine AWp.exit ?_
    refine lx hb_11 fun hx => ?_; cases hx; try dsimp only at h2_10
    cases h2_10; exact sb
  ·rintro L1 h; dsimp only at h ⊢
   refine sg fun K k => ?_
   iterate 3 refine oo ?_
   refine AOps.nil (k _ ?_)
   refine AWp.ret ?_
   cases h; exact rt
end Go.Pv.Tryd

namespace Go.Pv.Tryd
open Go.Proofs Go.Pv
theorem m_tariff_Gap_1_ok (i1 : Int) (v1 : Int) (r : Bool) (h : m_tariff_Gap_1 i1 v1 = some r) : PureFn Tryd.prog G 50 [.d (.int .i64 i1), .d (.int .i64 v1)] (.d (.bool r)) := by
 unfold m_tariff_Gap_1 at h
 refine pf Tryd.func50 Tryd.ntmps50 ?_
 refine sg fun K k => ?_
 refine oo ?_
 refine AOps.nil (k _ ?_)
 refine sg fun K k => ?_
 iterate 3 refine oo ?_
 refine AOps.nil (k _ ?_)
 refine AWp.ret ?_
 cases h; exact rt
end Go.Pv.Tryd

namespace Go.Pv.Tryd
open Go.Proofs Go.Pv
set_option maxHeartbeats 4000000 in
theorem m_tariff_walker_find_1_h_f50_ok (n : Nat) : ∀ (o1 : Walker) (m1 : (List (Arr3_Int × Bool))) (mark1 : Int) (a1 : Int) (b1 : Int) (r : ((List Int) × Bool × (List (Arr3_Int × Bool)))) (h : m_tariff_walker_find_1_h_f50 n o1 m1 mark1 a1 b1 = some r), ObjFn Tryd.prog G 79 [.d (.int .i64 mark1), .d (.int .u32 a1), .d (.int .u32 b1), .ptr 0 0 0, .ptr 1 0 0, .ptr 2 0 0, .ptr 3 0 0] [(0, ⟨72, 3, [.d (.agg [(.int .i64 o1.k), (.imm 2 (lenc Rule.pd o1.s)), (.imm 2 (lenc Rule.pd o1.t))])]⟩), (1, ⟨74, 1, [.d (.fn (.func 50))]⟩), (2, ⟨117, 1, [.mp 4]⟩), (3, ⟨118, 1, [.func (.func 79) [.ptr 0 0 0, .ptr 1 0 0, .ptr 2 0 0, .ptr 3 0 0]]⟩), (4, ⟨117, 0, mels Arr3_Int.pd PD.bool m1⟩)] (.tuple [.d (.imm 1 (lenc (PD.int .i64) r.1)), .d (.bool r.2.1)]) [(0, ⟨72, 3, [.d (.agg [(.int .i64 o1.k), (.imm 2 (lenc Rule.pd o1.s)), (.imm 2 (lenc Rule.pd o1.t))])]⟩), (1, ⟨74, 1, [.d (.fn (.func 50))]⟩), (2, ⟨117, 1, [.mp 4]⟩), (3, ⟨118, 1, [.func (.func 79) [.ptr 0 0 0, .ptr 1 0 0, .ptr 2 0 0, .ptr 3 0 0]]⟩), (4, ⟨117, 0, mels Arr3_Int.pd PD.bool r.2.2⟩)] := by
 induction n with
 | zero => intro o1 m1 mark1 a1 b1 r h; cases h
 | succ n ih =>
  intro o1 m1 mark1 a1 b1 r h
  replace h : m_tariff_walker_find_1_h_f50_b (m_tariff_walker_find_1_h_f50 n) o1 m1 mark1 a1 b1 = some r := h
  unfold m_tariff_walker_find_1_h_f50_b at h
  refine ObjFn.pf Tryd.func79 Tryd.ntmps79 ?_
  refine sg fun K k => ?_
  iterate 2 refine oo ?_
  refine AOps.nil (k _ ?_)
  refine AWp.seq fun _ K_1 => ?_
  refine sg fun K k => ?_
  iterate 4 refine oo ?_
  refine AOps.nil (k _ ?_)
  refine cd h (fun h => ?_) (fun h => ?_)
  ·refine sd mo fun K k => ?_
   iterate 2 refine dd ?_
   obtain ⟨r1, hx_3, h⟩ := bind_some h
   refine dcl (m_tariff_set_first_ok a1 _ hx_3) ?_
   refine dd ?_
   obtain ⟨r2, hx_4, h⟩ := bind_some h
   refine dcl (m_tariff_set_first_ok b1 _ hx_4) ?_
   refine DOps.stop (by kernel_rfl) ?_
   obtain ⟨r3, hx_5, h⟩ := bind_some h
   refine clV (m_tariff_Gap_1_ok r1 r2 _ hx_5) ?_
   iterate 2 refine oo ?_
   refine AOps.nil (k _ ?_)
   refine AWp.sub (τ := ⟨[(10, .d (.imm 1 (lenc (PD.int .i64) []))), (11, .d (.bool r3))], [(0, ⟨72, 3, [.d (.agg [(.int .i64 o1.k), (.imm 2 (lenc Rule.pd o1.s)), (.imm 2 (lenc Rule.pd o1.t))])]⟩), (1, ⟨74, 1, [.d (.fn (.func 50))]⟩), (2, ⟨117, 1, [.mp 4]⟩), (3, ⟨118, 1, [.func (.func 79) [.ptr 0 0 0, .ptr 1 0 0, .ptr 2 0 0, .ptr 3 0 0]]⟩), (4, ⟨117, 0, mels Arr3_Int.pd PD.bool m1⟩)], [], none⟩) sc ?_
   refine AWp.ret ?_
   cases h; exact rtO
  ·refine AWp.skip ?_
   refine K_1 _ ?_
   refine sg fun K k => ?_
   iterate 8 refine oo ?_
   refine AOps.nil (k _ ?_)
   refine AWp.seq fun _ K_6 => ?_
   refine sg fun K k => ?_
   iterate 2 refine oo ?_
   refine oml (k := (⟨mark1, (IntKind.i64.wrap a1), (IntKind.i64.wrap b1)⟩ : Arr3_Int)) (L := m1) (v0 := false) (encV := PD.bool) KE121 MU117 ty4 MZ4 (fun _ _ => .bool _) ?_
   refine AOps.nil (k _ ?_)
   refine cd h (fun h => ?_) (fun h => ?_)
   ·refine sg fun K k => ?_
    iterate 2 refine oo ?_
    refine AOps.nil (k _ ?_)
    refine AWp.sub (τ := ⟨[(10, .d (.imm 1 (lenc (PD.int .i64) []))), (11, .d (.bool false))], [(0, ⟨72, 3, [.d (.agg [(.int .i64 o1.k), (.imm 2 (lenc Rule.pd o1.s)), (.imm 2 (lenc Rule.pd o1.t))])]⟩), (1, ⟨74, 1, [.d (.fn (.func 50))]⟩), (2, ⟨117, 1, [.mp 4]⟩), (3, ⟨118, 1, [.func (.func 79) [.ptr 0 0 0, .ptr 1 0 0, .ptr 2 0 0, .ptr 3 0 0]]⟩), (4, ⟨117, 0, mels Arr3_Int.pd PD.bool m1⟩)], [], none⟩) sc ?_
    refine AWp.ret ?_
    cases h; exact rtO
   ·refine AWp.skip ?_
    refine K_6 _ ?_
    refine sg fun K k => ?_
    refine oo ?_
    refine AOps.nil (k _ ?_)
    refine jm (ι := (List (Arr3_Int × Bool))) [5, 12] [0, 1, 3, 1000] (fun i t => t) (fun i t => (2, ⟨117, 1, [.mp 4]⟩) :: (4, ⟨117, 0, mels Arr3_Int.pd PD.bool i⟩) :: t) .inl h ?_ ?_
    ·intro _ hj_9 h
     refine sg fun K k => ?_
     iterate 5 refine oo ?_
     refine ol ?_
     obtain ⟨r4, hx_10, hj_9⟩ := bind_some hj_9
     refine cl (m_tariff_cuts_ok mark1 [o1.s, o1.t] _ hx_10) ?_
     iterate 2 refine oo ?_
     refine AOps.nil (k _ ?_)
     refine AWp.block ?_
     obtain ⟨x_15, hl_12, h2_13⟩ := bind_some hj_9
     refine lp (S := (Int × Int × (List (Arr3_Int × Bool)))) [0, 1, 2, 3, 5, 6, 12, 43, 44] [0, 1, 3, 1000] (fun i t => (13, .d (.int .i64 i.1)) :: (45, .d (.int .i64 i.2.1)) :: t) (fun i t => (2, ⟨117, 1, [.mp 4]⟩) :: (4, ⟨117, 0, mels Arr3_Int.pd PD.bool i.2.2⟩) :: t) hl_12 ?_ ?_; exact sb; clear hl_12
     rintro ⟨from1, v1, M2⟩ _ hb_14; unfold m_tariff_walker_find_1_h_f50_l1 at hb_14; try dsimp only at hb_14
     try dsimp only
     refine sg fun K k => ?_
     refine oo ?_
     refine AOps.nil (k _ ?_)
     refine AWp.seq fun _ K_17 => ?_
     refine cd hb_14 (fun hb_14 => ?_) (fun hb_14 => ?_)
     ·refine AWp.skip ?_
      refine K_17 _ ?_
      refine AWp.seq fun _ K_19 => ?_
      refine AWp.block ?_
      refine sg fun K k => ?_
      obtain ⟨e1, ⟨f_20, f_21, f_22, f_23⟩, hb_14⟩ := idx_bind hb_14
      refine oo ?_
      refine oo ?_ (by intro K k; simp (disch := omega) only [go_sem, f_22, ↓reduceIte]; exact k)
      refine oo ?_
      refine AOps.nil (k _ ?_)
      refine AWp.seq fun _ K_24 => ?_
      refine sd mo fun K k => ?_
      iterate 8 refine dd ?_
      obtain ⟨r5, hx_25, hb_14⟩ := bind_some hb_14
      refine dcl (m_tariff_fits_ok o1.s mark1 from1 _ hx_25) ?_
      iterate 6 refine dd ?_
      obtain ⟨r6, hx_26, hb_14⟩ := bind_some hb_14
      refine dcl (m_tariff_fits_ok o1.t mark1 from1 _ hx_26) ?_
      refine dd ?_
      refine DOps.bar (by kernel_rfl) ?_
      refine BOps.hard (by kernel_rfl) ?_
      obtain ⟨r7, hx_27, hb_14⟩ := bind_some hb_14
      refine clU [(0, 0), (1, 1), (2, 2), (3, 3), (4, 4)] [] (ih o1 M2 (IntKind.i64.wrap (mark1 + 1)) (IntKind.u32.wrap ↑(BitVec.ofInt IntKind.u32.bits a1 &&& BitVec.ofInt IntKind.u32.bits r5).toNat) (IntKind.u32.wrap ↑(BitVec.ofInt IntKind.u32.bits b1 &&& BitVec.ofInt IntKind.u32.bits r6).toNat) _ hx_27) ?_
      refine AOps.nil ?_
      refine BOps.draw [] trivial (Nat.le_of_ble_eq_true rfl) ?_
      iterate 5 refine dd ?_
      refine DOps.nil (by kernel_rfl) (k _ ?_)
      refine sg fun K k => ?_
      refine oo ?_
      refine AOps.nil (k _ ?_)
      refine cd hb_14 (fun hb_14 => ?_) (fun hb_14 => ?_)
      ·refine sg fun K k => ?_
       obtain ⟨hg_29, hb_14⟩ := guardO_some hb_14
       iterate 6 refine oo ?_
       refine AOps.nil (k _ ?_)
       refine AWp.sub (τ := ⟨[(10, .d (.imm 1 (lenc (PD.int .i64) ([from1] ++ r7.1)))), (11, .d (.bool true))], [(0, ⟨72, 3, [.d (.agg [(.int .i64 o1.k), (.imm 2 (lenc Rule.pd o1.s)), (.imm 2 (lenc Rule.pd o1.t))])]⟩), (1, ⟨74, 1, [.d (.fn (.func 50))]⟩), (2, ⟨117, 1, [.mp 4]⟩), (3, ⟨118, 1, [.func (.func 79) [.ptr 0 0 0, .ptr 1 0 0, .ptr 2 0 0, .ptr 3 0 0]]⟩), (4, ⟨117, 0, mels Arr3_Int.pd PD.bool r7.2.2⟩)], [], none⟩) sc ?_
       refine AWp.ret ?_
       refine lx hb_14 fun hx => ?_; cases hx; try dsimp only at h2_13
       cases h2_13; try dsimp only at h
       cases h; exact rtO
      ·refine AWp.skip ?_
       refine K_24 _ ?_
       refine AWp.reg ?_
       iterate 2 refine oo ?_
       refine AOps.nil ?_
       refine K_19 _ ?_
       refine AWp.reg ?_
       iterate 2 refine oo ?_
       refine AOps.nil ?_
       exact ln hb_14 sb
     ·refine AWp.exit ?_
      refine lx hb_14 fun hx => ?_; cases hx; try dsimp only at h2_13
      exact ln h2_13 sb
    ·rintro M1 h; dsimp only at h ⊢
     refine sg fun K k => ?_
     iterate 2 refine oo ?_
     refine oms (k := (⟨mark1, (IntKind.i64.wrap a1), (IntKind.i64.wrap b1)⟩ : Arr3_Int)) (L := M1) (v := true) (encV := PD.bool) KE121 MU117 ?_
     refine AOps.nil (k _ ?_)
     refine sg fun K k => ?_
     iterate 2 refine oo ?_
     refine AOps.nil (k _ ?_)
     refine AWp.sub (τ := ⟨[(10, .d (.imm 1 (lenc (PD.int .i64) []))), (11, .d (.bool false))], [(0, ⟨72, 3, [.d (.agg [(.int .i64 o1.k), (.imm 2 (lenc Rule.pd o1.s)), (.imm 2 (lenc Rule.pd o1.t))])]⟩), (1, ⟨74, 1, [.d (.fn (.func 50))]⟩), (2, ⟨117, 1, [.mp 4]⟩), (3, ⟨118, 1, [.func (.func 79) [.ptr 0 0 0, .ptr 1 0 0, .ptr 2 0 0, .ptr 3 0 0]]⟩), (4, ⟨117, 0, mels Arr3_Int.pd PD.bool (mset (⟨mark1, (IntKind.i64.wrap a1), (IntKind.i64.wrap b1)⟩ : Arr3_Int) true M1)⟩)], [], none⟩) sc ?_
     refine AWp.ret ?_
     cases h; exact rtO
end Go.Pv.Tryd

namespace Go.Pv.Tryd
open Go.Proofs Go.Pv
theorem m_tariff_walker_find_f50_ok (w1 : Walker) (r : ((List Int) × Bool)) (h : m_tariff_walker_find_f50 w1 = some r) : PureFn Tryd.prog G 49 [.d (.agg [(.int .i64 w1.k), (.imm 2 (lenc Rule.pd w1.s)), (.imm 2 (lenc Rule.pd w1.t))]), .d (.fn (.func 50))] (.tuple [.d (.imm 1 (lenc (PD.int .i64) r.1)), .d (.bool r.2)]) := by
 unfold m_tariff_walker_find_f50 at h
 refine pf Tryd.func49 Tryd.ntmps49 ?_
 refine sg fun K k => ?_
 iterate 4 refine oo ?_
 refine AOps.nil (k _ ?_)
 refine sg fun K k => ?_
 refine omk (α := Arr3_Int) (β := Bool) Arr3_Int.pd PD.bool 1002 ?_
 iterate 2 refine oo ?_
 refine AOps.nil (k _ ?_)
 refine sg fun K k => ?_
 refine oo ?_
 refine AOps.nil (k _ ?_)
 refine sg fun K k => ?_
 iterate 2 refine oo ?_
 refine AOps.nil (k _ ?_)
 refine sd mo fun K k => ?_
 iterate 3 refine dd ?_
 obtain ⟨r1, hx_1, h⟩ := bind_some h
 refine dcl (m_tariff_all_ok w1.s _ hx_1) ?_
 iterate 2 refine dd ?_
 obtain ⟨r2, hx_2, h⟩ := bind_some h
 refine dcl (m_tariff_all_ok w1.t _ hx_2) ?_
 refine DOps.bar (by kernel_rfl) ?_
 refine BOps.hard (by kernel_rfl) ?_
 obtain ⟨r3, hx_3, h⟩ := bind_some h
 refine clU [(0, 1000), (1, 1001), (2, 1003), (3, 1004), (4, 1002)] [] (m_tariff_walker_find_1_h_f50_ok 100 w1 [] 0 r1 r2 _ hx_3) ?_
 refine AOps.nil ?_
 refine BOps.draw [] trivial (Nat.le_of_ble_eq_true rfl) ?_
 iterate 4 refine dd ?_
 refine DOps.nil (by kernel_rfl) (k _ ?_)
 refine AWp.ret ?_
 cases h; exact rt
end Go.Pv.Tryd

namespace Go.Pv.Tryd
open Go.Proofs Go.Pv
theorem m_tariff_found_ok (l1 : (List Int)) (ok1 : Bool) (r : ((List Int) × Int)) (h : m_tariff_found l1 ok1 = some r) : PureFn Tryd.prog G 48 [.d (.imm 1 (lenc (PD.int .i64) l1)), .d (.bool ok1)] (.tuple [.d (.imm 1 (lenc (PD.int .i64) r.1)), .d (.int .i64 r.2)]) := by
 unfold m_tariff_found at h
 refine pf Tryd.func48 Tryd.ntmps48 ?_
 refine sg fun K k => ?_
 iterate 2 refine oo ?_
 refine AOps.nil (k _ ?_)
 refine AWp.seq fun _ K_1 => ?_
 refine sg fun K k => ?_
 iterate 2 refine oo ?_
 refine AOps.nil (k _ ?_)
 refine cd h (fun h => ?_) (fun h => ?_)
 ·refine sg fun K k => ?_
  iterate 2 refine oo ?_
  refine AOps.nil (k _ ?_)
  refine AWp.ret ?_
  cases h; exact rt
 ·refine AWp.skip ?_
  refine K_1 _ ?_
  refine sg fun K k => ?_
  iterate 3 refine oo ?_
  refine AOps.nil (k _ ?_)
  refine AWp.ret ?_
  cases h; exact rt
end Go.Pv.Tryd

namespace Go.Pv.Tryd
open Go.Proofs Go.Pv
theorem m_tariff_Gap_ok (k1 : Int) (t1 : (List Rule)) (r : ((List Int) × Int)) (h : m_tariff_Gap k1 t1 = some r) : PureFn Tryd.prog G 21 [.d (.int .i64 k1), .d (.imm 2 (lenc Rule.pd t1))] (.tuple [.d (.imm 1 (lenc (PD.int .i64) r.1)), .d (.int .i64 r.2)]) := by
 unfold m_tariff_Gap at h
 refine pf Tryd.func21 Tryd.ntmps21 ?_
 refine sg fun K k => ?_
 iterate 2 refine oo ?_
 refine AOps.nil (k _ ?_)
 refine AWp.seq fun _ K_1 => ?_
 refine sg fun K k => ?_
 iterate 2 refine oo ?_
 refine ol ?_
 obtain ⟨r1, hx_2, h⟩ := bind_some h
 refine cl (m_tariff_checked_ok k1 [t1] _ hx_2) ?_
 refine oo ?_
 refine AOps.nil (k _ ?_)
 refine sg fun K k => ?_
 iterate 2 refine oo ?_
 refine AOps.nil (k _ ?_)
 refine cd h (fun h => ?_) (fun h => ?_)
 ·refine sg fun K k => ?_
  iterate 3 refine oo ?_
  refine AOps.nil (k _ ?_)
  refine AWp.ret ?_
  cases h; exact rt
 ·refine AWp.skip ?_
  refine K_1 _ ?_
  refine sg fun K k => ?_
  iterate 3 refine oo ?_
  refine AOps.sub (τ := ⟨[(16, .d (.agg [(.int .i64 k1), (.imm 2 (lenc Rule.pd t1)), (.imm 2 (lenc Rule.pd []))]))], [], [], none⟩) sc ?_
  obtain ⟨r2, hx_4, h⟩ := bind_some h
  refine clC (m_tariff_walker_find_f50_ok (⟨k1, t1, []⟩ : Walker) _ hx_4) ?_
  iterate 2 refine oo ?_
  obtain ⟨r3, hx_5, h⟩ := bind_some h
  refine cl (m_tariff_found_ok r2.1 r2.2 _ hx_5) ?_
  iterate 4 refine oo ?_
  refine AOps.nil (k _ ?_)
  refine AWp.ret ?_
  cases h; exact rt
end Go.Pv.Tryd

namespace Go.Pv.Tryd
open Go.Proofs Go.Pv
theorem m_tariff_builder_leaf_h_ok (o1 : Builder) (a1 : Int) (r : (Int × Builder)) (h : m_tariff_builder_leaf_h o1 a1 = some r) : ObjFn Tryd.prog G 88 [.ptr 0 0 0, .d (.int .u32 a1)] [(0, ⟨92, 5, [.agg [.d (.int .i64 o1.k), .d (.imm 2 (lenc Rule.pd o1.rules)), .mp 1, .mp 2, .slc 1003 0 o1.nodes.length]]⟩), (1, ⟨89, 0, mels Arr3_Int.pd (PD.int .i64) o1.known⟩), (2, ⟨90, 0, mels PD.str (PD.int .i64) o1.same⟩), (1003, ⟨37, 3, dl (lenc Node.pd o1.nodes)⟩)] (.d (.int .i64 r.1)) [(0, ⟨92, 5, [.agg [.d (.int .i64 r.2.k), .d (.imm 2 (lenc Rule.pd r.2.rules)), .mp 1, .mp 2, .slc 1003 0 r.2.nodes.length]]⟩), (1, ⟨89, 0, mels Arr3_Int.pd (PD.int .i64) r.2.known⟩), (2, ⟨90, 0, mels PD.str (PD.int .i64) r.2.same⟩), (1003, ⟨37, 3, dl (lenc Node.pd r.2.nodes)⟩)] := by
 unfold m_tariff_builder_leaf_h at h
 refine ObjFn.pf Tryd.func88 Tryd.ntmps88 ?_
 refine sg fun K k => ?_
 refine oo ?_
 refine AOps.nil (k _ ?_)
 refine sg fun K k => ?_
 refine oo ?_
 obtain ⟨r1, hx_1, h⟩ := bind_some h
 refine cl (m_tariff_set_first_ok a1 _ hx_1) ?_
 refine oo ?_
 refine AOps.nil (k _ ?_)
 refine AWp.seq fun _ K_2 => ?_
 refine sg fun K k => ?_
 iterate 2 refine oo ?_
 refine AOps.nil (k _ ?_)
 refine cd h (fun h => ?_) (fun h => ?_)
 ·refine sg fun K k => ?_
  refine oo ?_
  refine AOps.nil (k _ ?_)
  refine AWp.ret ?_
  cases h; exact rtO
 ·refine AWp.skip ?_
  refine K_2 _ ?_
  refine sg fun K k => ?_
  obtain ⟨e1, ⟨f_4, f_5, f_6, f_7⟩, h⟩ := idx_bind h
  iterate 7 refine oo ?_
  refine oo ?_ (by intro K k; simp (disch := omega) only [go_sem, f_6, ↓reduceIte]; exact k)
  iterate 2 refine oo ?_
  refine AOps.nil (k _ ?_)
  refine AWp.ret ?_
  cases h; exact rtO
end Go.Pv.Tryd

namespace Go.Pv.Tryd
open Go.Proofs Go.Pv
theorem m_tariff_merged_ok (ends1 : (List Int)) (to1 : (List Int)) (r : ((List Int) × (List Int))) (h : m_tariff_merged ends1 to1 = some r) : PureFn Tryd.prog G 89 [.d (.imm 1 (lenc (PD.int .i64) ends1)), .d (.imm 1 (lenc (PD.int .i64) to1))] (.tuple [.d (.imm 1 (lenc (PD.int .i64) r.1)), .d (.imm 1 (lenc (PD.int .i64) r.2))]) := by
 unfold m_tariff_merged at h
 refine pf Tryd.func89 Tryd.ntmps89 ?_
 refine sg fun K k => ?_
 iterate 2 refine oo ?_
 refine AOps.nil (k _ ?_)
 refine sg fun K k => ?_
 iterate 2 refine oo ?_
 refine AOps.nil (k _ ?_)
 refine AWp.sub (Sub.void 6 3 1 1000 (by rfl) (by rfl) (by decide) (by decide)) ?_
 simp only [eput, hput, reduceCtorEq, ↓reduceIte, Nat.reduceAdd, Nat.reduceMul, Nat.reduceLT, Nat.reduceLeDiff, Nat.reduceEqDiff, Nat.reduceBEq, Int.reduceToNat]
 refine AWp.sub (Sub.void 7 3 1 1001 (by rfl) (by rfl) (by decide) (by decide)) ?_
 simp only [eput, hput, reduceCtorEq, ↓reduceIte, Nat.reduceAdd, Nat.reduceMul, Nat.reduceLT, Nat.reduceLeDiff, Nat.reduceEqDiff, Nat.reduceBEq, Int.reduceToNat]
 refine jn (α := ((List Int) × (List Int))) [] [] (fun i t => (6, .slc 1000 0 i.1.length) :: (7, .slc 1001 0 i.2.length) :: t) (fun i t => (1000, ⟨3, 1, dl (lenc (PD.int .i64) i.1)⟩) :: (1001, ⟨3, 1, dl (lenc (PD.int .i64) i.2)⟩) :: t) h ?_ ?_
 ·intro _ hj_2
  refine sg fun K k => ?_
  iterate 3 refine oo ?_
  refine AOps.nil (k _ ?_)
  refine AWp.block ?_
  obtain ⟨x_7, hl_4, h2_5⟩ := bind_some hj_2
  refine lp (S := (Int × (List Int) × (List Int))) [0, 11, 12] [] (fun i t => (6, .slc 1000 0 i.2.1.length) :: (7, .slc 1001 0 i.2.2.length) :: (13, .d (.int .i64 i.1)) :: t) (fun i t => (1000, ⟨3, 1, dl (lenc (PD.int .i64) i.2.1)⟩) :: (1001, ⟨3, 1, dl (lenc (PD.int .i64) i.2.2)⟩) :: t) hl_4 ?_ ?_; exact sb; clear hl_4
  rintro ⟨v1, L3, L4⟩ _ hb_6; unfold m_tariff_merged_l1 at hb_6; try dsimp only at hb_6
  try dsimp only
  refine sg fun K k => ?_
  refine oo ?_
  refine AOps.nil (k _ ?_)
  refine AWp.seq fun _ K_9 => ?_
  refine cd hb_6 (fun hb_6 => ?_) (fun hb_6 => ?_)
  ·refine AWp.skip ?_
   refine K_9 _ ?_
   refine jn (α := ((List Int) × (List Int))) [0, 11, 12, 13] [] (fun i t => (6, .slc 1000 0 i.1.length) :: (7, .slc 1001 0 i.2.length) :: t) (fun i t => (1000, ⟨3, 1, dl (lenc (PD.int .i64) i.1)⟩) :: (1001, ⟨3, 1, dl (lenc (PD.int .i64) i.2)⟩) :: t) hb_6 ?_ ?_
   ·intro _ hj_12
    refine AWp.block ?_
    refine sg fun K k => ?_
    obtain ⟨e1, ⟨f_13, f_14, f_15, f_16⟩, hj_12⟩ := idx_bind hj_12
    iterate 2 refine oo ?_
    refine oo ?_ (by intro K k; simp (disch := omega) only [go_sem, f_15, ↓reduceIte]; exact k)
    iterate 2 refine oo ?_
    refine AOps.nil (k _ ?_)
    refine AWp.seq fun _ K_17 => ?_
    refine sg fun K k => ?_
    iterate 3 refine oo ?_
    refine AOps.nil (k _ ?_)
    refine sg fun K k => ?_
    iterate 3 refine oo ?_
    obtain ⟨b1, hc_18, hj_12⟩ := bind_some hj_12
    refine ct 8 [0, 6, 7, 8, 9, 10, 11, 12, 13] [1000, 1001] (fun  t => (30, .d (.bool b1)) :: t) ?_ ?_
    ·rcases bt (decide (0 < (L4.length : Int))) with hg_23 | hg_23
     ·rw [hg_23]
      rw [hg_23, cond_true] at hc_18
      obtain ⟨e2, ⟨f_19, f_20, f_21, f_22⟩, hc_18⟩ := idx_bind hc_18
      try simp only [Int.toNat_natCast] at f_21 f_22
      iterate 4 refine oo ?_
      refine oo ?_ (by intro K k; simp (disch := omega) only [go_sem, f_21, Int.toNat_natCast, ↓reduceIte]; exact k)
      iterate 3 refine oo ?_
      refine AOps.nil ?_
      cases hc_18
      exact sb
     ·rw [hg_23]
      rw [hg_23, cond_false] at hc_18
      iterate 8 refine oo ?_
      refine AOps.nil ?_
      cases hc_18
      exact sb
    refine AOps.nil (k _ ?_)
    refine cd hj_12 (fun hj_12 => ?_) (fun hj_12 => ?_)
    ·refine sg fun K k => ?_
     obtain ⟨e3, ⟨f_25, f_26, f_27, f_28⟩, hj_12⟩ := idx_bind hj_12
     iterate 6 refine oo ?_
     refine oo ?_ (by intro K k; simp (disch := omega) only [go_sem, f_27, ↓reduceIte]; exact k)
     obtain ⟨e4, ⟨f_29, f_30, f_31, f_32⟩, hj_12⟩ := idx_bind hj_12
     try simp only [Int.toNat_natCast] at f_31 f_32
     refine oo ?_
     refine oo ?_ (by intro K k; simp (disch := omega) only [go_sem, f_31, Int.toNat_natCast, ↓reduceIte]; exact k)
     refine AOps.nil (k _ ?_)
     refine AWp.exit ?_
     cases hj_12; exact sb
    ·refine AWp.skip ?_
     refine K_17 _ ?_
     refine AWp.reg ?_
     obtain ⟨e5, ⟨f_33, f_34, f_35, f_36⟩, hj_12⟩ := idx_bind hj_12
     iterate 4 refine oo ?_
     refine oo ?_ (by intro K k; simp (disch := omega) only [go_sem, f_35, ↓reduceIte]; exact k)
     refine ol ?_
     obtain ⟨hg_37, hj_12⟩ := guardO_some hj_12
     iterate 3 refine oo ?_
     refine ol ?_
     obtain ⟨hg_38, hj_12⟩ := guardO_some hj_12
     iterate 3 refine oo ?_
     refine AOps.nil ?_
     cases hj_12; exact sb
   ·rintro ⟨L5, L6⟩ hb_6; dsimp only at hb_6 ⊢
    refine AWp.reg ?_
    iterate 2 refine oo ?_
    refine AOps.nil ?_
    exact ln hb_6 sb
  ·refine AWp.exit ?_
   refine lx hb_6 fun hx => ?_; cases hx; try dsimp only at h2_5
   cases h2_5; exact sb
 ·rintro ⟨L1, L2⟩ h; dsimp only at h ⊢
  refine sg fun K k => ?_
  iterate 4 refine oo ?_
  refine AOps.nil (k _ ?_)
  refine AWp.ret ?_
  cases h; exact rt
end Go.Pv.Tryd

namespace Go.Proofs
open Go.Shelf
def Tryd.laysM171_ren : Go.Shelf.Ren := ⟨fun | 171 => 110 | 243 => 117 | 246 => 130 | 283 => 137 | 284 => 138 | 285 => 139 | 286 => 140 | 129 => 128 | 317 => 142 | 318 => 143 | 319 => 144 | 320 => 145 | 337 => 146 | 338 => 147 | n => n, fun | 3 => 3 | 9 => 9 | 2 => 2 | 4 => 4 | 171 => 180 | 0 => 0 | 53 => 170 | 37 => 52 | 5 => 5 | 173 => 182 | 212 => 188 | 51 => 94 | 20 => 20 | 213 => 189 | 46 => 159 | 232 => 190 | 233 => 191 | n => n, fun | 17 => 0 | 18 => 1 | 19 => 2 | n => n⟩
theorem Tryd.laysM171 : Go.Proofs.LaysM.n171 Tryd.prog Tryd.laysM171_ren := {
  mixed := by kernel_rfl
  f129 := Tryd.func128.trans (congrArg some (by kernel_rfl))
  f171 := Tryd.func110.trans (congrArg some (by kernel_rfl))
  f243 := Tryd.func117.trans (congrArg some (by kernel_rfl))
  f246 := Tryd.func130.trans (congrArg some (by kernel_rfl))
  f283 := Tryd.func137.trans (congrArg some (by kernel_rfl))
  f284 := Tryd.func138.trans (congrArg some (by kernel_rfl))
  f285 := Tryd.func139.trans (congrArg some (by kernel_rfl))
  f286 := Tryd.func140.trans (congrArg some (by kernel_rfl))
  f317 := Tryd.func142.trans (congrArg some (by kernel_rfl))
  f318 := Tryd.func143.trans (congrArg some (by kernel_rfl))
  f319 := Tryd.func144.trans (congrArg some (by kernel_rfl))
  f320 := Tryd.func145.trans (congrArg some (by kernel_rfl))
  f337 := Tryd.func146.trans (congrArg some (by kernel_rfl))
  f338 := Tryd.func147.trans (congrArg some (by kernel_rfl))
  t0 := Tryd.underlying0
  a0 := Tryd.isAgg0
  z0 := Tryd.sizeOf0
  v0 := Tryd.zeroValue0
  t2 := Tryd.underlying2
  a2 := Tryd.isAgg2
  z2 := Tryd.sizeOf2
  v2 := Tryd.zeroValue2
  t3 := Tryd.underlying3
  a3 := Tryd.isAgg3
  z3 := Tryd.sizeOf3
  v3 := Tryd.zeroValue3
  t4 := Tryd.underlying4
  a4 := Tryd.isAgg4
  z4 := Tryd.sizeOf4
  v4 := Tryd.zeroValue4
  t5 := Tryd.underlying5
  a5 := Tryd.isAgg5
  z5 := Tryd.sizeOf5
  v5 := Tryd.zeroValue5
  t9 := Tryd.underlying9
  a9 := Tryd.isAgg9
  z9 := Tryd.sizeOf9
  v9 := Tryd.zeroValue9
  t20 := Tryd.underlying20
  a20 := Tryd.isAgg20
  z20 := Tryd.sizeOf20
  v20 := Tryd.zeroValue20
  t37 := Tryd.underlying52
  a37 := Tryd.isAgg52
  z37 := Tryd.sizeOf52
  v37 := Tryd.zeroValue52
  t46 := Tryd.underlying159
  a46 := Tryd.isAgg159
  z46 := Tryd.sizeOf159
  v46 := Tryd.zeroValue159
  t51 := Tryd.underlying94
  a51 := Tryd.isAgg94
  z51 := Tryd.sizeOf94
  v51 := Tryd.zeroValue94
  t53 := Tryd.underlying170
  a53 := Tryd.isAgg170
  z53 := Tryd.sizeOf170
  v53 := Tryd.zeroValue170
  t171 := Tryd.underlying180
  a171 := Tryd.isAgg180
  z171 := Tryd.sizeOf180
  v171 := Tryd.zeroValue180
  t173 := Tryd.underlying182
  a173 := Tryd.isAgg182
  z173 := Tryd.sizeOf182
  v173 := Tryd.zeroValue182
  t212 := Tryd.underlying188
  a212 := Tryd.isAgg188
  z212 := Tryd.sizeOf188
  v212 := Tryd.zeroValue188
  t213 := Tryd.underlying189
  a213 := Tryd.isAgg189
  z213 := Tryd.sizeOf189
  t232 := Tryd.underlying190
  a232 := Tryd.isAgg190
  z232 := Tryd.sizeOf190
  v232 := Tryd.zeroValue190
  t233 := Tryd.underlying191
  a233 := Tryd.isAgg191
  z233 := Tryd.sizeOf191
  v233 := Tryd.zeroValue191
  g17 := by kernel_rfl
  g18 := by kernel_rfl
  g19 := by kernel_rfl
  i0 := by kernel_rfl
  i2 := by kernel_rfl
  i3 := by kernel_rfl
  i4 := by kernel_rfl
  i5 := by kernel_rfl
  i9 := by kernel_rfl
  i20 := by kernel_rfl
  i37 := by kernel_rfl
  i46 := by kernel_rfl
  i51 := by kernel_rfl
  i53 := by kernel_rfl
  i171 := by kernel_rfl
  i173 := by kernel_rfl
  i212 := by kernel_rfl
  i232 := by kernel_rfl
  i233 := by kernel_rfl
  m17 := by kernel_rfl
  m18 := by kernel_rfl
  m19 := by kernel_rfl }
open Go.RowKit Go.Sort Go.Lib in
theorem Tryd.strconv_Itoa (n : Int) (h0 : -9223372036854775808 ≤ n) (h1 : n ≤ 9223372036854775807) (w : World) (htab : Lib.TabIs Tryd.prog w "internal/strconv.uint64pow10" .u64 Lib.pow10Tab) :
    Calls Tryd.prog 110 #[.int .i64 n] w fun e w' => e = .returned (.string ⟨(Lib.itoa n).toArray⟩) ∧ ∃ k os, w' = grow (w.drewN k) os := Any.strconv_Itoa Tryd.laysM171 n h0 h1 w htab
end Go.Proofs

namespace Go.Pv.Tryd
open Go.Proofs Go.Pv
theorem noEscape_run (w : World) (v : Value) : (callFunc 129 #[v]).run Tryd.prog w = .ok (.value v) w := by
  rw [run_callFunc_extern Tryd.func129 (by kernel_rfl) (by kernel_rfl) (by kernel_rfl) (e := Extern.AbiNoEscape.same) (by kernel_rfl)]
  rfl
theorem info148 : ∃ j, Tryd.prog.info? 148 = some j ∧ j.size = 2 := by
  have h : (Tryd.prog.info? 148).map (·.size) = some 2 := by kernel_rfl
  simpa [Option.map_eq_some_iff] using h
theorem ccheck_new (L : List Int) : ObjFn Tryd.prog G 116 [.ptr 0 0 0] [(0, ⟨148, 2, [.agg [.d .nilptr, .slc 1 0 L.length]]⟩), (1, ⟨5, 1, dl (lenc (PD.int .u8) L)⟩)] (.tuple []) [(0, ⟨148, 2, [.agg [.ptr 0 0 0, .slc 1 0 L.length]]⟩), (1, ⟨5, 1, dl (lenc (PD.int .u8) L)⟩)] := by
  obtain ⟨j, hj, hjs⟩ := info148
  refine ObjFn.pf Tryd.func116 Tryd.ntmps116 ?_
  refine AWp.seq fun _ K_1 => ?_
  refine AWp.reg ?_
  iterate 5 refine oo ?_
  refine AOps.nil ?_
  refine K_1 _ ?_
  refine cdt ?_
  refine AWp.reg ?_
  iterate 2 refine oo ?_
  refine on (fun K' hK' => OpT.toUnsafe (t := 148) (r := 0) rfl (by kernel_rfl) (by kernel_rfl) hj (by omega) (by rfl) (by rfl) (by exact Nat.one_pos) (by decide) (hK' _ ?_))
  refine on (fun K' hK' => OpT.noEscape rfl rfl rfl noEscape_run (by decide) (hK' _ ?_))
  refine on (fun K' hK' => OpT.fromUnsafe (u := 148) (r := 0) rfl (by kernel_rfl) (by kernel_rfl) hj (by rfl) (by rfl) (by exact Nat.one_pos) rfl (by kernel_rfl) (by decide) (hK' _ ?_))
  iterate 3 refine oo ?_
  refine AOps.nil ?_
  exact rtO
theorem ccheck_old (L : List Int) : ObjFn Tryd.prog G 116 [.ptr 0 0 0] [(0, ⟨148, 2, [.agg [.ptr 0 0 0, .slc 1 0 L.length]]⟩), (1, ⟨5, 1, dl (lenc (PD.int .u8) L)⟩)] (.tuple []) [(0, ⟨148, 2, [.agg [.ptr 0 0 0, .slc 1 0 L.length]]⟩), (1, ⟨5, 1, dl (lenc (PD.int .u8) L)⟩)] := by
  obtain ⟨j, hj, hjs⟩ := info148
  refine ObjFn.pf Tryd.func116 Tryd.ntmps116 ?_
  refine AWp.seq fun _ K_1 => ?_
  refine AWp.reg ?_
  iterate 5 refine oo ?_
  refine AOps.nil ?_
  refine K_1 _ ?_
  refine cdf ?_
  refine AWp.seq fun _ K_2 => ?_
  refine AWp.reg ?_
  iterate 5 refine oo ?_
  refine on (fun K' hK' => OpT.neqSame (te := 148) (r := 0) (i := 0) (off := 0) rfl (by kernel_rfl) hj (by rfl) (by rfl) (by decide) (hK' _ ?_))
  refine AOps.nil ?_
  refine K_2 _ ?_
  refine cdf ?_
  refine AWp.skip ?_
  exact rtO
theorem ccheck_ok (b : Bool) (L : List Int) : ObjFn Tryd.prog G 116 [.ptr 0 0 0] [(0, ⟨148, 2, [.agg [optP b 0, .slc 1 0 L.length]]⟩), (1, ⟨5, 1, dl (lenc (PD.int .u8) L)⟩)] (.tuple []) [(0, ⟨148, 2, [.agg [.ptr 0 0 0, .slc 1 0 L.length]]⟩), (1, ⟨5, 1, dl (lenc (PD.int .u8) L)⟩)] := by
  cases b
  · exact ccheck_new L
  · exact ccheck_old L
theorem bWrite_ok (o : StringsBuilder) (s : ByteArray) (r : StringsBuilder) (h : bWrite o s = some r) : ObjFn Tryd.prog G 109 [.ptr 0 0 0, .d (.str s)] [(0, ⟨148, 2, [.agg [optP o.addr 0, .slc 1001 0 o.buf.length]]⟩), (1001, ⟨5, 1, dl (lenc (PD.int .u8) o.buf)⟩)]
    (.tuple [.d (.int .i64 s.size), .d .niliface]) [(0, ⟨148, 2, [.agg [.ptr 0 0 0, .slc 1001 0 r.buf.length]]⟩), (1001, ⟨5, 1, dl (lenc (PD.int .u8) r.buf)⟩)] := by
  unfold bWrite at h
  obtain ⟨hg, h⟩ := guardO_some h
  refine ObjFn.pf Tryd.func109 Tryd.ntmps109 ?_
  refine sg fun K k => ?_
  iterate 2 refine oo ?_
  refine AOps.nil (k _ ?_)
  refine sg fun K k => ?_
  refine oo ?_
  refine clU [(0, 0), (1, 1001)] [] (ccheck_ok o.addr o.buf) ?_
  refine AOps.nil (k _ ?_)
  refine sg fun K k => ?_
  iterate 6 refine oo ?_
  refine on (fun K' hK' => OpT.appendStr (r := 1001) (str := s) (row := ⟨5, 1, dl (lenc (PD.int .u8) o.buf)⟩) rfl ty52 T52_desc (by kernel_rfl) ty5 (by kernel_rfl) (by kernel_rfl) (by kernel_rfl) (by rfl) (by rfl) (by simp only [go_sem]) rfl rfl (by decide) (by rfl) (by omega) (by decide) (hK' _ ?_))
  simp only [go_sem, ↓reduceIte]
  iterate 3 refine oo ?_
  refine AOps.nil (k _ ?_)
  refine sg fun K k => ?_
  iterate 4 refine oo ?_
  refine AOps.nil (k _ ?_)
  refine AWp.ret ?_
  cases h
  have e1 : (o.buf ++ bytesI s).length = o.buf.length + s.size := by rw [List.length_append, bytesI_length]
  dsimp only
  rw [e1]
  exact rtO
theorem bWriteByte_ok (o : StringsBuilder) (c : Int) (r : StringsBuilder) (h : bWriteByte o c = some r) : ObjFn Tryd.prog G 111 [.ptr 0 0 0, .d (.int .u8 c)] [(0, ⟨148, 2, [.agg [optP o.addr 0, .slc 1001 0 o.buf.length]]⟩), (1001, ⟨5, 1, dl (lenc (PD.int .u8) o.buf)⟩)]
    (.d .niliface) [(0, ⟨148, 2, [.agg [.ptr 0 0 0, .slc 1001 0 r.buf.length]]⟩), (1001, ⟨5, 1, dl (lenc (PD.int .u8) r.buf)⟩)] := by
  unfold bWriteByte at h
  obtain ⟨hg, h⟩ := guardO_some h
  refine ObjFn.pf Tryd.func111 Tryd.ntmps111 ?_
  refine sg fun K k => ?_
  iterate 1 refine oo ?_
  refine AOps.nil (k _ ?_)
  refine sg fun K k => ?_
  refine oo ?_
  refine clU [(0, 0), (1, 1001)] [] (ccheck_ok o.addr o.buf) ?_
  refine AOps.nil (k _ ?_)
  refine sg fun K k => ?_
  iterate 6 refine oo ?_
  refine ol ?_
  iterate 4 refine oo ?_
  refine AOps.nil (k _ ?_)
  refine sg fun K k => ?_
  iterate 1 refine oo ?_
  refine AOps.nil (k _ ?_)
  refine AWp.ret ?_
  cases h
  exact rtO
theorem bString_ok (o : StringsBuilder) (r : ByteArray) (h : bString o = some r) (q : PV) (hq : clean q) (hq2 : refsIn [(0, (⟨148, 2, [.agg [q, .slc 1 0 o.buf.length]]⟩ : Row)), (1, (⟨5, 1, dl (lenc (PD.int .u8) o.buf)⟩ : Row))] q) : ObjFn Tryd.prog G 112 [.ptr 0 0 0] [(0, ⟨148, 2, [.agg [q, .slc 1 0 o.buf.length]]⟩), (1, ⟨5, 1, dl (lenc (PD.int .u8) o.buf)⟩)]
    (.d (.str r)) [(0, ⟨148, 2, [.agg [q, .slc 1 0 o.buf.length]]⟩), (1, ⟨5, 1, dl (lenc (PD.int .u8) o.buf)⟩)] := by
  unfold bString at h
  obtain ⟨⟨hg, hg2⟩, h⟩ := guardO_some h
  cases h
  have hl0 : o.buf.length ≠ 0 := by simpa using hg2
  refine ObjFn.pf Tryd.func112 Tryd.ntmps112 (hrh := ⟨⟨⟨hq2, ⟨rfl, trivial⟩⟩, trivial⟩, row_refs _ _, trivial⟩) ?_
  refine sg fun K k => ?_
  refine oo ?_
  refine AOps.nil (k _ ?_)
  refine sd mo fun K k => ?_
  iterate 4 refine dd ?_
  refine dap rfl (by intro K k; refine OpX.sliceData (r := 1) (n := o.buf.length) rfl rfl rfl (by rfl) hl0 (by decide) (by rw [exE_nil]; trivial) ?_; exact k) ?_
  simp only [go_sem, ↓reduceIte]
  iterate 5 refine dd ?_
  refine dap rfl (by intro K k; refine OpX.mkStr (r := 1) (s := ofI o.buf) rfl rfl rfl rfl (by kernel_rfl) (by kernel_rfl) (by rfl) (by rw [ofI_size]; rfl) (by rw [bytesI_ofI hg]; rfl) (by rw [ofI_size]; exact hl0) (by decide) (by rw [exE_nil]; trivial) ?_; exact k) ?_
  simp only [go_sem, ↓reduceIte]
  refine dd ?_
  refine DOps.nil (by kernel_rfl) (k _ ?_)
  refine AWp.ret ?_
  exact rtO
theorem bString_opt (o : StringsBuilder) (r : ByteArray) (h : bString o = some r) : ObjFn Tryd.prog G 112 [.ptr 0 0 0] [(0, ⟨148, 2, [.agg [optP o.addr 0, .slc 1 0 o.buf.length]]⟩), (1, ⟨5, 1, dl (lenc (PD.int .u8) o.buf)⟩)]
    (.d (.str r)) [(0, ⟨148, 2, [.agg [optP o.addr 0, .slc 1 0 o.buf.length]]⟩), (1, ⟨5, 1, dl (lenc (PD.int .u8) o.buf)⟩)] :=
  bString_ok o r h _ (by rw [optP_clean]; trivial) (by rw [optP_refs rfl]; trivial)
theorem tab_of {B : Base Tryd.prog} {w : World} {φ : Nm} {H : Heap} {g : Gh} (hs : Sit G B w φ H g) : Lib.TabIs Tryd.prog w "internal/strconv.uint64pow10" .u64 Lib.pow10Tab := by
  obtain ⟨c, e, f, v, h1, h2, h3, h4, h5, h6⟩ := hs.glob tabG (.agg (Lib.pow10Tab.map (PD.int .u64))) (by simp [G])
  have hg : Tryd.prog.globalNamed "internal/strconv.uint64pow10" = some tabG := by kernel_rfl
  unfold Lib.TabIs World.var?
  rw [hg, Option.bind_some, h1]
  simp only [Option.some.injEq]
  cases h3 with
  | @agg vs _ hsz h hf =>
    have hl : vs.size = Lib.pow10Tab.length := by simpa using hsz
    have e0 : (Value.agg vs).cells = vs := rfl
    rw [e0] at h4 h5
    refine Array.ext (by simp; omega) fun j hj1 hj2 => ?_
    have hj : j < Lib.pow10Tab.length := by omega
    have hj' : j < vs.size := by omega
    have a1 := h j (by simpa using hj)
    simp only [List.getElem_map] at a1
    have a2 := repD_int a1
    have a3 := (h5 j hj').1
    rw [a2, Array.getElem?_eq_getElem hj1] at a3
    simp only [Option.some.injEq] at a3
    rw [a3]; simp
theorem itoa_ok (n : Int) (r : ByteArray) (h : itoaO n = some r) : PureFn Tryd.prog G 110 [.d (.int .i64 n)] (.d (.str r)) := by
  unfold itoaO at h
  obtain ⟨⟨hg1, hg2⟩, h⟩ := guardO_some h
  cases h
  intro B φ vs h0 h1 h2 h3
  obtain ⟨v, rfl⟩ : ∃ v, vs = [v] := by
    match vs, h1 with
    | [v], _ => exact ⟨v, rfl⟩
  have hv : RepV B.w0 B.X φ [] v (.d (.int .i64 n)) := h2 0 (by simp)
  obtain rfl := repV_int hv
  have hc := Tryd.strconv_Itoa n hg1 hg2 B.w0 (tab_of h3)
  refine (callsIn_wide.2 hc).mono ?_
  rintro e w' ⟨rfl, k, os, rfl⟩
  refine ⟨_, _, [], none, φ, rfl, ⟨rfl, rfl⟩, .d (.str _), ?_⟩
  exact Sit.more h0 h3 (by simp [Sort.grow]) (fun b hb => heap_grow (B.w0.drewN k) os hb) rfl rfl rfl
end Go.Pv.Tryd

namespace Go.Pv.Tryd
open Go.Proofs Go.Pv
set_option maxHeartbeats 4000000 in
theorem m_tariff_builder_node_h_ok (o1 : Builder) (x1 : Node) (r : (Int × Builder)) (h : m_tariff_builder_node_h o1 x1 = some r) : ObjFn Tryd.prog G 90 [.ptr 0 0 0, .d (.agg [(.int .i64 x1.Mark), (.imm 1 (lenc (PD.int .i64) x1.Cuts)), (.imm 1 (lenc (PD.int .i64) x1.To))])] [(0, ⟨92, 5, [.agg [.d (.int .i64 o1.k), .d (.imm 2 (lenc Rule.pd o1.rules)), .mp 1, .mp 2, .slc 1003 0 o1.nodes.length]]⟩), (1, ⟨89, 0, mels Arr3_Int.pd (PD.int .i64) o1.known⟩), (2, ⟨90, 0, mels PD.str (PD.int .i64) o1.same⟩), (1003, ⟨37, 3, dl (lenc Node.pd o1.nodes)⟩)] (.d (.int .i64 r.1)) [(0, ⟨92, 5, [.agg [.d (.int .i64 r.2.k), .d (.imm 2 (lenc Rule.pd r.2.rules)), .mp 1, .mp 2, .slc 1003 0 r.2.nodes.length]]⟩), (1, ⟨89, 0, mels Arr3_Int.pd (PD.int .i64) r.2.known⟩), (2, ⟨90, 0, mels PD.str (PD.int .i64) r.2.same⟩), (1003, ⟨37, 3, dl (lenc Node.pd r.2.nodes)⟩)] := by
 unfold m_tariff_builder_node_h at h
 refine ObjFn.pf Tryd.func90 Tryd.ntmps90 ?_
 refine sg fun K k => ?_
 iterate 2 refine oo ?_
 refine AOps.nil (k _ ?_)
 refine sg fun K k => ?_
 refine oo ?_
 refine AOps.sub (Sub.voidCell 1005 1 5 1 1006 (x := ⟨148, 2, [.d (.agg [.nilptr, .nilslice])]⟩) (p := .d (.agg [.nilptr, .nilslice])) (cs := [.d .nilptr, .d .nilslice]) rfl (Nat.le_of_ble_eq_true rfl) rfl rfl rfl rfl rfl (by decide) (by decide)) ?_
 simp only [hput, List.set_cons_succ, List.set_cons_zero, reduceCtorEq, ↓reduceIte, Nat.reduceAdd, Nat.reduceMul, Nat.reduceLT, Nat.reduceLeDiff, Nat.reduceEqDiff, Nat.reduceBEq, Int.reduceToNat]
 refine AOps.nil (k _ ?_)
 refine jn (α := (Bool × (List Int))) [0, 3] [0, 1, 2, 1003, 1004] (fun i t => (5, .ptr 1005 0 0) :: t) (fun i t => (1005, ⟨148, 2, [.agg [optP i.1 1005, .slc 1006 0 i.2.length]]⟩) :: (1006, ⟨5, 1, dl (lenc (PD.int .u8) i.2)⟩) :: t) h ?_ ?_
 ·intro _ hj_2
  refine sg fun K k => ?_
  iterate 2 refine oo ?_
  refine ol ?_
  iterate 4 refine oo ?_
  refine ol ?_
  refine AOps.sub (τ := ⟨[(0, .ptr 0 0 0), (3, .ptr 1004 0 0), (5, .ptr 1005 0 0), (19, .d (.imm 1 (lenc (slenc 1 (PD.int .i64)) [[x1.Mark], x1.Cuts, x1.To])))], [(0, ⟨92, 5, [.agg [.d (.int .i64 o1.k), .d (.imm 2 (lenc Rule.pd o1.rules)), .mp 1, .mp 2, .slc 1003 0 o1.nodes.length]]⟩), (1, ⟨89, 0, mels Arr3_Int.pd (PD.int .i64) o1.known⟩), (2, ⟨90, 0, mels PD.str (PD.int .i64) o1.same⟩), (1003, ⟨37, 3, dl (lenc Node.pd o1.nodes)⟩), (1004, ⟨37, 3, [.d (.agg [(.int .i64 x1.Mark), (.imm 1 (lenc (PD.int .i64) x1.Cuts)), (.imm 1 (lenc (PD.int .i64) x1.To))])]⟩), (1005, ⟨148, 2, [.agg [.d .nilptr, .slc 1006 0 0]]⟩), (1006, ⟨5, 1, dl (lenc (PD.int .u8) [])⟩)], [], none⟩) sb ?_
  iterate 2 refine oo ?_
  refine AOps.nil (k _ ?_)
  refine AWp.block ?_
  obtain ⟨x_7, hl_4, h2_5⟩ := bind_some hj_2
  refine lp (S := (Int × Bool × (List Int))) [0, 3, 19, 20] [0, 1, 2, 1003, 1004] (fun i t => (5, .ptr 1005 0 0) :: (21, .d (.int .i64 i.1)) :: t) (fun i t => (1005, ⟨148, 2, [.agg [optP i.2.1 1005, .slc 1006 0 i.2.2.length]]⟩) :: (1006, ⟨5, 1, dl (lenc (PD.int .u8) i.2.2)⟩) :: t) hl_4 ?_ ?_; exact sb; clear hl_4
  rintro ⟨v1, c2, L2⟩ _ hb_6; unfold m_tariff_builder_node_h_l1 at hb_6; try dsimp only at hb_6
  try dsimp only
  refine sg fun K k => ?_
  refine oo ?_
  refine AOps.nil (k _ ?_)
  refine AWp.seq fun _ K_9 => ?_
  refine cd hb_6 (fun hb_6 => ?_) (fun hb_6 => ?_)
  ·refine AWp.skip ?_
   refine K_9 _ ?_
   refine jn (α := (Bool × (List Int))) [0, 3, 19, 20, 21] [0, 1, 2, 1003, 1004] (fun i t => (5, .ptr 1005 0 0) :: t) (fun i t => (1005, ⟨148, 2, [.agg [optP i.1 1005, .slc 1006 0 i.2.length]]⟩) :: (1006, ⟨5, 1, dl (lenc (PD.int .u8) i.2)⟩) :: t) hb_6 ?_ ?_
   ·intro _ hj_12
    refine AWp.block ?_
    refine sg fun K k => ?_
    obtain ⟨e1, ⟨f_13, f_14, f_15, f_16⟩, hj_12⟩ := idx_bind hj_12
    try simp only [List.length_append, List.length_set, List.length_replicate, List.length_cons, List.length_nil] at f_14 f_16
    refine oo ?_
    refine oo ?_ (by intro K k; simp (disch := omega) only [go_sem, f_15, ↓reduceIte]; exact k)
    refine oo ?_
    refine AOps.nil (k _ ?_)
    refine jn (α := (Bool × (List Int))) [0, 3, 19, 20, 21] [0, 1, 2, 1003, 1004] (fun i t => (5, .ptr 1005 0 0) :: t) (fun i t => (1005, ⟨148, 2, [.agg [optP i.1 1005, .slc 1006 0 i.2.length]]⟩) :: (1006, ⟨5, 1, dl (lenc (PD.int .u8) i.2)⟩) :: t) hj_12 ?_ ?_
    ·intro _ hj_18
     refine sg fun K k => ?_
     iterate 3 refine oo ?_
     refine AOps.nil (k _ ?_)
     refine AWp.block ?_
     obtain ⟨x_23, hl_20, h2_21⟩ := bind_some hj_18
     refine lp (S := (Int × Bool × (List Int))) [0, 3, 19, 20, 21, 25, 26] [0, 1, 2, 1003, 1004] (fun i t => (5, .ptr 1005 0 0) :: (27, .d (.int .i64 i.1)) :: t) (fun i t => (1005, ⟨148, 2, [.agg [optP i.2.1 1005, .slc 1006 0 i.2.2.length]]⟩) :: (1006, ⟨5, 1, dl (lenc (PD.int .u8) i.2.2)⟩) :: t) hl_20 ?_ ?_; exact sb; clear hl_20
     rintro ⟨v2, c5, L5⟩ _ hb_22; unfold m_tariff_builder_node_h_l2 at hb_22; try dsimp only at hb_22
     try dsimp only
     refine sg fun K k => ?_
     refine oo ?_
     refine AOps.nil (k _ ?_)
     refine AWp.seq fun _ K_25 => ?_
     refine cd hb_22 (fun hb_22 => ?_) (fun hb_22 => ?_)
     ·refine AWp.skip ?_
      refine K_25 _ ?_
      refine AWp.seq fun _ K_27 => ?_
      refine AWp.block ?_
      refine sg fun K k => ?_
      obtain ⟨e2, ⟨f_28, f_29, f_30, f_31⟩, hb_22⟩ := idx_bind hb_22
      refine oo ?_
      refine oo ?_ (by intro K k; simp (disch := omega) only [go_sem, f_30, ↓reduceIte]; exact k)
      refine oo ?_
      refine AOps.nil (k _ ?_)
      refine AWp.reg ?_
      refine oo ?_
      obtain ⟨r1, hx_32, hb_22⟩ := bind_some hb_22
      refine cl (itoa_ok e2 _ hx_32) ?_
      obtain ⟨hg_33, hb_22⟩ := guardO_some hb_22
      refine oo ?_
      obtain ⟨r2, hx_34, hb_22⟩ := bind_some hb_22
      refine clU [(0, 1005), (1001, 1006)] [1006] (bWrite_ok (⟨c5, L5⟩ : StringsBuilder) (r1 ++ (⟨#[32]⟩ : ByteArray)) _ hx_34) ?_
      refine AOps.nil ?_
      refine K_27 _ ?_
      refine AWp.reg ?_
      iterate 2 refine oo ?_
      refine AOps.nil ?_
      exact ln hb_22 sb
     ·refine AWp.exit ?_
      refine lx hb_22 fun hx => ?_; cases hx; try dsimp only at h2_21
      cases h2_21; exact sb
    ·rintro ⟨c4, L4⟩ hj_12; dsimp only at hj_12 ⊢
     refine AWp.reg ?_
     obtain ⟨r3, hx_35, hj_12⟩ := bind_some hj_12
     refine clU [(0, 1005), (1001, 1006)] [1006] (bWriteByte_ok (⟨c4, L4⟩ : StringsBuilder) 124 _ hx_35) ?_
     refine AOps.nil ?_
     cases hj_12; exact sb
   ·rintro ⟨c3, L3⟩ hb_6; dsimp only at hb_6 ⊢
    refine AWp.reg ?_
    iterate 2 refine oo ?_
    refine AOps.nil ?_
    exact ln hb_6 sb
  ·refine AWp.exit ?_
   refine lx hb_6 fun hx => ?_; cases hx; try dsimp only at h2_5
   cases h2_5; exact sb
 ·rintro ⟨c1, L1⟩ h; dsimp only at h ⊢
  refine sd mo fun K k => ?_
  iterate 4 refine dd ?_
  obtain ⟨r4, hx_36, h⟩ := bind_some h
  refine dclR [(0, 1005), (1, 1006)] (bString_opt (⟨c1, L1⟩ : StringsBuilder) _ hx_36) ?_
  refine DOps.bar (by kernel_rfl) ?_
  refine BOps.hard (by kernel_rfl) ?_
  refine oml (k := r4) (L := o1.same) (v0 := 0) (encV := (PD.int .i64)) KE9 MU90 ty3 MZ3 (fun _ _ => .int _ _) ?_
  refine AOps.nil ?_
  refine BOps.draw [] trivial (Nat.le_of_ble_eq_true rfl) ?_
  iterate 5 refine dd ?_
  refine DOps.nil (by kernel_rfl) (k _ ?_)
  refine jn (α := (Int × (List (ByteArray × Int)) × (List Node))) [] [1] (fun i t => (10, .d (.int .i64 i.1)) :: t) (fun i t => (0, ⟨92, 5, [.agg [.d (.int .i64 o1.k), .d (.imm 2 (lenc Rule.pd o1.rules)), .mp 1, .mp 2, .slc 1003 0 i.2.2.length]]⟩) :: (2, ⟨90, 0, mels PD.str (PD.int .i64) i.2.1⟩) :: (1003, ⟨37, 3, dl (lenc Node.pd i.2.2)⟩) :: t) h ?_ ?_
  ·intro _ hj_38
   refine sg fun K k => ?_
   iterate 2 refine oo ?_
   refine AOps.nil (k _ ?_)
   refine cd hj_38 (fun hj_38 => ?_) (fun hj_38 => ?_)
   ·refine sg fun K k => ?_
    iterate 6 refine oo ?_
    refine AOps.nil (k _ ?_)
    refine sd mo fun K k => ?_
    iterate 4 refine dd ?_
    obtain ⟨r5, hx_40, hj_38⟩ := bind_some hj_38
    refine dclR [(0, 1005), (1, 1006)] (bString_opt (⟨c1, L1⟩ : StringsBuilder) _ hx_40) ?_
    refine dd ?_
    refine DOps.stop (by kernel_rfl) ?_
    refine oms (k := r5) (L := o1.same) (v := (o1.nodes.length : Int)) (encV := (PD.int .i64)) KE9 MU90 ?_
    refine AOps.nil (k _ ?_)
    refine AWp.sub (τ := ⟨[(0, .ptr 0 0 0), (3, .ptr 1004 0 0), (5, .ptr 1005 0 0), (10, .d (.int .i64 (o1.nodes.length : Int))), (11, .d (.bool ((mget r4 o1.same).isSome))), (38, .tuple [.d (.int .i64 ((mget r4 o1.same).getD 0)), .d (.bool ((mget r4 o1.same).isSome))]), (39, .ptr 0 0 0), (40, .ptr 0 0 0), (41, .ptr 0 0 3), (42, .mp 2), (43, .d (.str r4)), (44, .tuple [.d (.int .i64 ((mget r4 o1.same).getD 0)), .d (.bool ((mget r4 o1.same).isSome))]), (45, .d (.int .i64 ((mget r4 o1.same).getD 0))), (46, .d (.bool ((mget r4 o1.same).isSome))), (47, .d (.bool ((mget r4 o1.same).isSome))), (48, .d (.bool (!((mget r4 o1.same).isSome)))), (49, .ptr 0 0 0), (50, .ptr 0 0 0), (51, .ptr 0 0 4), (53, .d (.int .i64 (o1.nodes.length : Int))), (54, .ptr 0 0 0), (55, .ptr 0 0 0), (56, .ptr 0 0 3), (57, .mp 2), (58, .d (.str r5)), (59, .d (.int .i64 (o1.nodes.length : Int)))], [(0, ⟨92, 5, [.agg [.d (.int .i64 o1.k), .d (.imm 2 (lenc Rule.pd o1.rules)), .mp 1, .mp 2, .slc 1003 0 o1.nodes.length]]⟩), (1, ⟨89, 0, mels Arr3_Int.pd (PD.int .i64) o1.known⟩), (2, ⟨90, 0, mels PD.str (PD.int .i64) (mset r5 (o1.nodes.length : Int) o1.same)⟩), (1003, ⟨37, 3, dl (lenc Node.pd o1.nodes)⟩), (1004, ⟨37, 3, [.d (.agg [(.int .i64 x1.Mark), (.imm 1 (lenc (PD.int .i64) x1.Cuts)), (.imm 1 (lenc (PD.int .i64) x1.To))])]⟩), (1005, ⟨148, 2, [.agg [optP c1 1005, .slc 1006 0 L1.length]]⟩), (1006, ⟨5, 1, dl (lenc (PD.int .u8) L1)⟩)], [], none⟩) sb ?_
    refine drX mo [(1003, [64, 67, 1000000])] ?_
    iterate 6 (refine dd ?_ (by intro K k; simp (disch := omega) only [go_sem, true_or, or_true, and_self, true_and, and_true, ↓reduceIte]; exact k))
    refine ddl ?_ (by intro K k; simp (disch := omega) only [go_sem, true_or, or_true, and_self, true_and, and_true, ↓reduceIte]; exact k)
    obtain ⟨hg_41, hj_38⟩ := guardO_some hj_38
    refine dapH [64, 67, 1000000] [(0, ⟨92, 5, [.agg [.d (.int .i64 o1.k), .d (.imm 2 (lenc Rule.pd o1.rules)), .mp 1, .mp 2, .slc 1003 0 o1.nodes.length]]⟩)] (dl (lenc Node.pd [x1])) se32 ?_
    iterate 3 (refine dd ?_ (by intro K k; simp (disch := omega) only [go_sem, true_or, or_true, and_self, true_and, and_true, ↓reduceIte]; exact k))
    refine DOps.nil (by kernel_rfl) ?_
    cases hj_38; exact sb
   ·refine AWp.skip ?_
    cases hj_38; exact sb
  ·rintro ⟨n1, M1, L6⟩ h; dsimp only at h ⊢
   refine sg fun K k => ?_
   iterate 2 refine oo ?_
   refine AOps.nil (k _ ?_)
   refine AWp.ret ?_
   cases h; exact rtO
end Go.Pv.Tryd

namespace Go.Pv.Tryd
open Go.Proofs Go.Pv
set_option maxHeartbeats 4000000 in
theorem m_tariff_builder_at_h_ok (n : Nat) : ∀ (o1 : Builder) (mark1 : Int) (a1 : Int) (r : (Int × Builder)) (h : m_tariff_builder_at_h n o1 mark1 a1 = some r), ObjFn Tryd.prog G 57 [.ptr 0 0 0, .d (.int .i64 mark1), .d (.int .u32 a1)] [(0, ⟨92, 5, [.agg [.d (.int .i64 o1.k), .d (.imm 2 (lenc Rule.pd o1.rules)), .mp 1, .mp 2, .slc 1003 0 o1.nodes.length]]⟩), (1, ⟨89, 0, mels Arr3_Int.pd (PD.int .i64) o1.known⟩), (2, ⟨90, 0, mels PD.str (PD.int .i64) o1.same⟩), (1003, ⟨37, 3, dl (lenc Node.pd o1.nodes)⟩)] (.d (.int .i64 r.1)) [(0, ⟨92, 5, [.agg [.d (.int .i64 r.2.k), .d (.imm 2 (lenc Rule.pd r.2.rules)), .mp 1, .mp 2, .slc 1003 0 r.2.nodes.length]]⟩), (1, ⟨89, 0, mels Arr3_Int.pd (PD.int .i64) r.2.known⟩), (2, ⟨90, 0, mels PD.str (PD.int .i64) r.2.same⟩), (1003, ⟨37, 3, dl (lenc Node.pd r.2.nodes)⟩)] := by
 induction n with
 | zero => intro o1 mark1 a1 r h; cases h
 | succ n ih =>
  intro o1 mark1 a1 r h
  replace h : m_tariff_builder_at_h_b (m_tariff_builder_at_h n) o1 mark1 a1 = some r := h
  unfold m_tariff_builder_at_h_b at h
  refine ObjFn.pf Tryd.func57 Tryd.ntmps57 ?_
  refine sg fun K k => ?_
  refine oo ?_
  refine AOps.nil (k _ ?_)
  refine AWp.seq fun _ K_1 => ?_
  refine sg fun K k => ?_
  iterate 6 refine oo ?_
  refine AOps.nil (k _ ?_)
  refine cd h (fun h => ?_) (fun h => ?_)
  ·refine sg fun K k => ?_
   iterate 2 refine oo ?_
   obtain ⟨r1, hx_3, h⟩ := bind_some h
   refine clU [(0, 0), (1, 1), (2, 2), (1003, 1003)] [1003] (m_tariff_builder_leaf_h_ok o1 a1 _ hx_3) ?_
   refine oo ?_
   refine AOps.nil (k _ ?_)
   refine AWp.ret ?_
   cases h; exact rtO
  ·refine AWp.skip ?_
   refine K_1 _ ?_
   refine sg fun K k => ?_
   iterate 6 refine oo ?_
   refine AOps.nil (k _ ?_)
   refine AWp.seq fun _ K_4 => ?_
   refine sd mo fun K k => ?_
   iterate 5 refine dd ?_
   refine DOps.bar (by kernel_rfl) ?_
   refine BOps.hard (by kernel_rfl) ?_
   refine oml (k := (⟨mark1, (IntKind.i64.wrap a1), 0⟩ : Arr3_Int)) (L := o1.known) (v0 := 0) (encV := (PD.int .i64)) KE121 MU89 ty3 MZ3 (fun _ _ => .int _ _) ?_
   refine AOps.nil ?_
   refine BOps.draw [] trivial (Nat.le_of_ble_eq_true rfl) ?_
   iterate 5 refine dd ?_
   refine DOps.nil (by kernel_rfl) (k _ ?_)
   refine sg fun K k => ?_
   refine oo ?_
   refine AOps.nil (k _ ?_)
   refine cd h (fun h => ?_) (fun h => ?_)
   ·refine sg fun K k => ?_
    iterate 2 refine oo ?_
    refine AOps.nil (k _ ?_)
    refine AWp.ret ?_
    cases h; exact rtO
   ·refine AWp.skip ?_
    refine K_4 _ ?_
    refine sg fun K k => ?_
    iterate 5 refine oo ?_
    refine ol ?_
    obtain ⟨r2, hx_6, h⟩ := bind_some h
    refine cl (m_tariff_cuts_ok mark1 [o1.rules] _ hx_6) ?_
    refine oo ?_
    refine AOps.nil (k _ ?_)
    refine sg fun K k => ?_
    refine oo ?_
    refine AOps.nil (k _ ?_)
    refine AWp.sub (Sub.void 11 3 1 1005 (by rfl) (by rfl) (by decide) (by decide)) ?_
    simp only [eput, hput, reduceCtorEq, ↓reduceIte, Nat.reduceAdd, Nat.reduceMul, Nat.reduceLT, Nat.reduceLeDiff, Nat.reduceEqDiff, Nat.reduceBEq, Int.reduceToNat]
    refine sg fun K k => ?_
    refine oo ?_
    refine AOps.nil (k _ ?_)
    refine jn (α := (Int × (List Rule) × (List (Arr3_Int × Int)) × (List (ByteArray × Int)) × (List Node) × (List Int))) [1, 7, 10] [1004] (fun i t => (0, .ptr 0 0 0) :: (11, .slc 1005 0 i.2.2.2.2.2.length) :: t) (fun i t => (0, ⟨92, 5, [.agg [.d (.int .i64 i.1), .d (.imm 2 (lenc Rule.pd i.2.1)), .mp 1, .mp 2, .slc 1003 0 i.2.2.2.2.1.length]]⟩) :: (1, ⟨89, 0, mels Arr3_Int.pd (PD.int .i64) i.2.2.1⟩) :: (2, ⟨90, 0, mels PD.str (PD.int .i64) i.2.2.2.1⟩) :: (1003, ⟨37, 3, dl (lenc Node.pd i.2.2.2.2.1)⟩) :: (1005, ⟨3, 1, dl (lenc (PD.int .i64) i.2.2.2.2.2)⟩) :: t) h ?_ ?_
    ·intro _ hj_8
     refine sg fun K k => ?_
     iterate 3 refine oo ?_
     refine AOps.nil (k _ ?_)
     refine AWp.block ?_
     obtain ⟨x_13, hl_10, h2_11⟩ := bind_some hj_8
     refine lp (S := (Int × Int × Int × (List Rule) × (List (Arr3_Int × Int)) × (List (ByteArray × Int)) × (List Node) × (List Int))) [1, 2, 7, 10, 49, 50] [1004] (fun i t => (0, .ptr 0 0 0) :: (11, .slc 1005 0 i.2.2.2.2.2.2.2.length) :: (12, .d (.int .i64 i.1)) :: (51, .d (.int .i64 i.2.1)) :: t) (fun i t => (0, ⟨92, 5, [.agg [.d (.int .i64 i.2.2.1), .d (.imm 2 (lenc Rule.pd i.2.2.2.1)), .mp 1, .mp 2, .slc 1003 0 i.2.2.2.2.2.2.1.length]]⟩) :: (1, ⟨89, 0, mels Arr3_Int.pd (PD.int .i64) i.2.2.2.2.1⟩) :: (2, ⟨90, 0, mels PD.str (PD.int .i64) i.2.2.2.2.2.1⟩) :: (1003, ⟨37, 3, dl (lenc Node.pd i.2.2.2.2.2.2.1)⟩) :: (1005, ⟨3, 1, dl (lenc (PD.int .i64) i.2.2.2.2.2.2.2)⟩) :: t) hl_10 ?_ ?_; exact sb; clear hl_10
     rintro ⟨from1, v1, c3, c4, M3, M4, L3, L4⟩ _ hb_12; unfold m_tariff_builder_at_h_l1 at hb_12; try dsimp only at hb_12
     try dsimp only
     refine sg fun K k => ?_
     refine oo ?_
     refine AOps.nil (k _ ?_)
     refine AWp.seq fun _ K_15 => ?_
     refine cd hb_12 (fun hb_12 => ?_) (fun hb_12 => ?_)
     ·refine AWp.skip ?_
      refine K_15 _ ?_
      refine AWp.seq fun _ K_17 => ?_
      refine AWp.block ?_
      refine sg fun K k => ?_
      obtain ⟨e1, ⟨f_18, f_19, f_20, f_21⟩, hb_12⟩ := idx_bind hb_12
      refine oo ?_
      refine oo ?_ (by intro K k; simp (disch := omega) only [go_sem, f_20, ↓reduceIte]; exact k)
      refine oo ?_
      refine AOps.nil (k _ ?_)
      refine sg fun K k => ?_
      iterate 11 refine oo ?_
      obtain ⟨r3, hx_22, hb_12⟩ := bind_some hb_12
      refine cl (m_tariff_fits_ok c4 mark1 from1 _ hx_22) ?_
      refine oo ?_
      obtain ⟨r4, hx_23, hb_12⟩ := bind_some hb_12
      refine clU [(0, 0), (1, 1), (2, 2), (1003, 1003)] [1003] (ih (⟨c3, c4, M3, M4, L3⟩ : Builder) (IntKind.i64.wrap (mark1 + 1)) (IntKind.u32.wrap ↑(BitVec.ofInt IntKind.u32.bits a1 &&& BitVec.ofInt IntKind.u32.bits r3).toNat) _ hx_23) ?_
      refine ol ?_
      obtain ⟨hg_24, hb_12⟩ := guardO_some hb_12
      iterate 2 refine oo ?_
      refine AOps.nil (k _ ?_)
      refine AWp.reg ?_
      iterate 2 refine oo ?_
      refine AOps.nil ?_
      refine K_17 _ ?_
      refine AWp.reg ?_
      iterate 2 refine oo ?_
      refine AOps.nil ?_
      exact ln hb_12 sb
     ·refine AWp.exit ?_
      refine lx hb_12 fun hx => ?_; cases hx; try dsimp only at h2_11
      cases h2_11; exact sb
    ·rintro ⟨c1, c2, M1, M2, L1, L2⟩ h; dsimp only at h ⊢
     refine sg fun K k => ?_
     iterate 2 refine oo ?_
     refine AOps.sub (τ := ⟨[(0, .ptr 0 0 0), (1, .d (.int .i64 mark1)), (7, .ptr 1004 0 0), (74, .d (.imm 1 (lenc (PD.int .i64) r2))), (75, .d (.imm 1 (lenc (PD.int .i64) L2)))], [(0, ⟨92, 5, [.agg [.d (.int .i64 c1), .d (.imm 2 (lenc Rule.pd c2)), .mp 1, .mp 2, .slc 1003 0 L1.length]]⟩), (1, ⟨89, 0, mels Arr3_Int.pd (PD.int .i64) M1⟩), (2, ⟨90, 0, mels PD.str (PD.int .i64) M2⟩), (1003, ⟨37, 3, dl (lenc Node.pd L1)⟩), (1004, ⟨121, 3, [.d (.agg [(.int .i64 mark1), (.int .i64 (IntKind.i64.wrap a1)), (.int .i64 0)])]⟩)], [], none⟩) sc ?_
     obtain ⟨r5, hx_25, h⟩ := bind_some h
     refine cl (m_tariff_merged_ok r2 L2 _ hx_25) ?_
     iterate 5 refine oo ?_
     refine AOps.nil (k _ ?_)
     refine sg fun K k => ?_
     obtain ⟨e2, ⟨f_26, f_27, f_28, f_29⟩, h⟩ := idx_bind h
     try simp only [Int.reduceToNat] at f_28 f_29
     iterate 2 refine oo ?_
     refine oo ?_ (by intro K k; simp (disch := omega) only [go_sem, f_28, ↓reduceIte]; exact k)
     refine oo ?_
     refine AOps.nil (k _ ?_)
     refine jn (α := (Int × Int × (List Rule) × (List (Arr3_Int × Int)) × (List (ByteArray × Int)) × (List Node))) [7] [1004] (fun i t => (0, .ptr 0 0 0) :: (17, .d (.int .i64 i.1)) :: t) (fun i t => (0, ⟨92, 5, [.agg [.d (.int .i64 i.2.1), .d (.imm 2 (lenc Rule.pd i.2.2.1)), .mp 1, .mp 2, .slc 1003 0 i.2.2.2.2.2.length]]⟩) :: (1, ⟨89, 0, mels Arr3_Int.pd (PD.int .i64) i.2.2.2.1⟩) :: (2, ⟨90, 0, mels PD.str (PD.int .i64) i.2.2.2.2.1⟩) :: (1003, ⟨37, 3, dl (lenc Node.pd i.2.2.2.2.2)⟩) :: t) h ?_ ?_
     ·intro _ hj_31
      refine sg fun K k => ?_
      iterate 3 refine oo ?_
      refine AOps.nil (k _ ?_)
      refine cd hj_31 (fun hj_31 => ?_) (fun hj_31 => ?_)
      ·refine AWp.reg ?_
       iterate 5 refine oo ?_
       refine AOps.sub (τ := ⟨[(0, .ptr 0 0 0), (7, .ptr 1004 0 0), (85, .ptr 0 0 0), (89, .d (.agg [(.int .i64 mark1), (.imm 1 (lenc (PD.int .i64) r5.1)), (.imm 1 (lenc (PD.int .i64) r5.2))]))], [(0, ⟨92, 5, [.agg [.d (.int .i64 c1), .d (.imm 2 (lenc Rule.pd c2)), .mp 1, .mp 2, .slc 1003 0 L1.length]]⟩), (1, ⟨89, 0, mels Arr3_Int.pd (PD.int .i64) M1⟩), (2, ⟨90, 0, mels PD.str (PD.int .i64) M2⟩), (1003, ⟨37, 3, dl (lenc Node.pd L1)⟩), (1004, ⟨121, 3, [.d (.agg [(.int .i64 mark1), (.int .i64 (IntKind.i64.wrap a1)), (.int .i64 0)])]⟩)], [], none⟩) sb ?_
       obtain ⟨r6, hx_33, hj_31⟩ := bind_some hj_31
       refine clU [(0, 0), (1, 1), (2, 2), (1003, 1003)] [1003] (m_tariff_builder_node_h_ok (⟨c1, c2, M1, M2, L1⟩ : Builder) (⟨mark1, r5.1, r5.2⟩ : Node) _ hx_33) ?_
       refine oo ?_
       refine AOps.nil ?_
       cases hj_31; exact sb
      ·refine AWp.skip ?_
       cases hj_31; exact sb
     ·rintro ⟨n1, c5, c6, M5, M6, L5⟩ h; dsimp only at h ⊢
      refine sd mo fun K k => ?_
      iterate 6 refine dd ?_
      refine DOps.stop (by kernel_rfl) ?_
      refine oms (k := (⟨mark1, (IntKind.i64.wrap a1), 0⟩ : Arr3_Int)) (L := M5) (v := n1) (encV := (PD.int .i64)) KE121 MU89 ?_
      refine AOps.nil (k _ ?_)
      refine sg fun K k => ?_
      iterate 2 refine oo ?_
      refine AOps.nil (k _ ?_)
      refine AWp.ret ?_
      cases h; exact rtO
end Go.Pv.Tryd

namespace Go.Pv.Tryd
open Go.Proofs Go.Pv
theorem m_tariff_builder_ordered_1_h_ok (n : Nat) : ∀ (m1 : (List (Int × Int))) (l1 : (List Node)) (o1 : Builder) (n1 : Int) (r : (Int × (List (Int × Int)) × (List Node))) (h : m_tariff_builder_ordered_1_h n m1 l1 o1 n1 = some r), ObjFn Tryd.prog G 91 [.d (.int .i64 n1), .ptr 0 0 0, .ptr 1 0 0, .ptr 2 0 0, .ptr 3 0 0] (dynH 0 (subs Node.sub l1) ([(0, ⟨133, 1, [.mp 4]⟩), (1, ⟨32, 1, [.slc 1005 0 l1.length]⟩), (2, ⟨88, 1, [.ptr 6 0 0]⟩), (3, ⟨124, 1, [.func (.func 91) [.ptr 0 0 0, .ptr 1 0 0, .ptr 2 0 0, .ptr 3 0 0]]⟩), (4, ⟨133, 0, mels (PD.int .i64) (PD.int .i64) m1⟩), (1005, ⟨37, 3, nelF 0 Node.npv l1⟩), (6, ⟨92, 5, [.agg [.d (.int .i64 o1.k), .d (.imm 2 (lenc Rule.pd o1.rules)), .mp 7, .mp 8, .slc 1009 0 o1.nodes.length]]⟩), (7, ⟨89, 0, mels Arr3_Int.pd (PD.int .i64) o1.known⟩), (8, ⟨90, 0, mels PD.str (PD.int .i64) o1.same⟩), (1009, ⟨37, 3, dl (lenc Node.pd o1.nodes)⟩)])) (.d (.int .i64 r.1)) (dynH 0 (subs Node.sub r.2.2) ([(0, ⟨133, 1, [.mp 4]⟩), (1, ⟨32, 1, [.slc 1005 0 r.2.2.length]⟩), (2, ⟨88, 1, [.ptr 6 0 0]⟩), (3, ⟨124, 1, [.func (.func 91) [.ptr 0 0 0, .ptr 1 0 0, .ptr 2 0 0, .ptr 3 0 0]]⟩), (4, ⟨133, 0, mels (PD.int .i64) (PD.int .i64) r.2.1⟩), (1005, ⟨37, 3, nelF 0 Node.npv r.2.2⟩), (6, ⟨92, 5, [.agg [.d (.int .i64 o1.k), .d (.imm 2 (lenc Rule.pd o1.rules)), .mp 7, .mp 8, .slc 1009 0 o1.nodes.length]]⟩), (7, ⟨89, 0, mels Arr3_Int.pd (PD.int .i64) o1.known⟩), (8, ⟨90, 0, mels PD.str (PD.int .i64) o1.same⟩), (1009, ⟨37, 3, dl (lenc Node.pd o1.nodes)⟩)])) := by
 induction n with
 | zero => intro m1 l1 o1 n1 r h; cases h
 | succ n ih =>
  intro m1 l1 o1 n1 r h
  replace h : m_tariff_builder_ordered_1_h_b (m_tariff_builder_ordered_1_h n) m1 l1 o1 n1 = some r := h
  unfold m_tariff_builder_ordered_1_h_b at h
  refine ObjFn.pf Tryd.func91 Tryd.ntmps91 ?_
  refine sg fun K k => ?_
  refine oo ?_
  refine AOps.nil (k _ ?_)
  refine AWp.seq fun _ K_1 => ?_
  refine sg fun K k => ?_
  iterate 2 refine oo ?_
  refine AOps.nil (k _ ?_)
  refine cd h (fun h => ?_) (fun h => ?_)
  ·refine sg fun K k => ?_
   iterate 2 refine oo ?_
   refine AOps.nil (k _ ?_)
   refine AWp.ret ?_
   cases h; exact rtO
  ·refine AWp.skip ?_
   refine K_1 _ ?_
   refine AWp.seq fun _ K_3 => ?_
   refine sg fun K k => ?_
   iterate 2 refine oo ?_
   refine oml (k := n1) (L := m1) (v0 := 0) (encV := (PD.int .i64)) KE3 MU133 ty3 MZ3 (fun _ _ => .int _ _) ?_
   iterate 5 refine oo ?_
   refine AOps.nil (k _ ?_)
   refine sg fun K k => ?_
   refine oo ?_
   refine AOps.nil (k _ ?_)
   refine cd h (fun h => ?_) (fun h => ?_)
   ·refine sg fun K k => ?_
    iterate 2 refine oo ?_
    refine AOps.nil (k _ ?_)
    refine AWp.ret ?_
    cases h; exact rtO
   ·refine AWp.skip ?_
    refine K_3 _ ?_
    refine sg fun K k => ?_
    iterate 3 refine oo ?_
    refine AOps.nil (k _ ?_)
    refine sg fun K k => ?_
    iterate 3 refine oo ?_
    refine oms (k := n1) (L := m1) (v := (l1.length : Int)) (encV := (PD.int .i64)) KE3 MU133 ?_
    refine AOps.nil (k _ ?_)
    refine AWp.sub (τ := ⟨[(0, .d (.int .i64 n1)), (1, .ptr 0 0 0), (2, .ptr 1 0 0), (3, .ptr 2 0 0), (4, .ptr 3 0 0), (6, .d (.int .i64 0)), (7, .d (.int .i64 ((mget n1 m1).getD 0))), (8, .d (.bool ((mget n1 m1).isSome))), (9, .d (.int .i64 (l1.length : Int))), (13, .d (.int .i64 n1)), (14, .d (.bool (decide (n1 < 0)))), (16, .tuple [.d (.int .i64 ((mget n1 m1).getD 0)), .d (.bool ((mget n1 m1).isSome))]), (17, .mp 4), (18, .d (.int .i64 n1)), (19, .tuple [.d (.int .i64 ((mget n1 m1).getD 0)), .d (.bool ((mget n1 m1).isSome))]), (20, .d (.int .i64 ((mget n1 m1).getD 0))), (21, .d (.bool ((mget n1 m1).isSome))), (22, .d (.bool ((mget n1 m1).isSome))), (25, .d (.int .i64 (l1.length : Int))), (26, .mp 4), (27, .d (.int .i64 n1)), (28, .d (.int .i64 (l1.length : Int)))], (dynH 0 (subs Node.sub l1) ([(0, ⟨133, 1, [.mp 4]⟩), (1, ⟨32, 1, [.slc 1005 0 l1.length]⟩), (2, ⟨88, 1, [.ptr 6 0 0]⟩), (3, ⟨124, 1, [.func (.func 91) [.ptr 0 0 0, .ptr 1 0 0, .ptr 2 0 0, .ptr 3 0 0]]⟩), (4, ⟨133, 0, mels (PD.int .i64) (PD.int .i64) (mset n1 (l1.length : Int) m1)⟩), (1005, ⟨37, 3, nelF 0 Node.npv l1⟩), (6, ⟨92, 5, [.agg [.d (.int .i64 o1.k), .d (.imm 2 (lenc Rule.pd o1.rules)), .mp 7, .mp 8, .slc 1009 0 o1.nodes.length]]⟩), (7, ⟨89, 0, mels Arr3_Int.pd (PD.int .i64) o1.known⟩), (8, ⟨90, 0, mels PD.str (PD.int .i64) o1.same⟩), (1009, ⟨37, 3, dl (lenc Node.pd o1.nodes)⟩)])), [], none⟩) sb ?_
    refine sdX mo [(1005, [29, 49, 1000001])] fun K k => ?_
    obtain ⟨e1, ⟨f_5, f_6, f_7, f_8⟩, h⟩ := idx_bind h
    iterate 8 (refine dd ?_ (by intro K k; simp (disch := omega) only [go_sem, true_or, or_true, and_self, true_and, and_true, ↓reduceIte]; exact k))
    refine dd ?_ (by intro K k; simp (disch := omega) only [go_sem, f_7, true_or, or_true, and_self, true_and, and_true, ↓reduceIte]; exact k)
    iterate 7 (refine dd ?_ (by intro K k; simp (disch := omega) only [go_sem, true_or, or_true, and_self, true_and, and_true, ↓reduceIte]; exact k))
    refine dd ?_ (by intro K k; simp (disch := omega) only [go_sem, f_7, true_or, or_true, and_self, true_and, and_true, ↓reduceIte]; exact k)
    obtain ⟨r1, hx_9, h⟩ := bind_some h
    refine dcl (RowFn.pure (clone_92 e1.Cuts _ hx_9)) ?_
    refine dd ?_ (by intro K k; simp (disch := omega) only [go_sem, true_or, or_true, and_self, true_and, and_true, ↓reduceIte]; exact k)
    refine ddl ?_ (by intro K k; simp (disch := omega) only [go_sem, true_or, or_true, and_self, true_and, and_true, ↓reduceIte]; exact k)
    obtain ⟨hg_10, h⟩ := guardO_some h
    refine dapH [29, 49, 1000001] [(1, ⟨32, 1, [.slc 1005 0 l1.length]⟩)] [.d (.agg [(.int .i64 e1.Mark), (.imm 1 (lenc (PD.int .i64) r1)), .nilslice])] se32 ?_
    refine dd ?_ (by intro K k; simp (disch := omega) only [go_sem, true_or, or_true, and_self, true_and, and_true, ↓reduceIte]; exact k)
    refine DOps.nil (by kernel_rfl) (k _ ?_)
    refine AWp.sub (psh 0 1005 2 (⟨e1.Mark, r1, []⟩ : Node)) ?_
    refine jn (α := ((List (Int × Int)) × (List Node))) [9] [2, 3, 6, 7, 8, 1009] (fun i t => t) (fun i t => dynH 0 (subs Node.sub i.2) ((0, ⟨133, 1, [.mp 4]⟩) :: (1, ⟨32, 1, [.slc 1005 0 i.2.length]⟩) :: (4, ⟨133, 0, mels (PD.int .i64) (PD.int .i64) i.1⟩) :: (1005, ⟨37, 3, nelF 0 Node.npv i.2⟩) :: t)) h ?_ ?_
    ·intro _ hj_12
     refine sg fun K k => ?_
     obtain ⟨e2, ⟨f_13, f_14, f_15, f_16⟩, hj_12⟩ := idx_bind hj_12
     iterate 7 refine oo ?_
     refine oo ?_ (by intro K k; simp (disch := omega) only [go_sem, f_15, ↓reduceIte]; exact k)
     iterate 2 refine oo ?_
     refine AOps.nil (k _ ?_)
     refine AWp.block ?_
     obtain ⟨x_21, hl_18, h2_19⟩ := bind_some hj_12
     refine lp (S := (Int × (List (Int × Int)) × (List Node))) [2, 4, 9, 57, 58] [2, 3, 6, 7, 8, 1009] (fun i t => (59, .d (.int .i64 i.1)) :: t) (fun i t => dynH 0 (subs Node.sub i.2.2) ((0, ⟨133, 1, [.mp 4]⟩) :: (1, ⟨32, 1, [.slc 1005 0 i.2.2.length]⟩) :: (4, ⟨133, 0, mels (PD.int .i64) (PD.int .i64) i.2.1⟩) :: (1005, ⟨37, 3, nelF 0 Node.npv i.2.2⟩) :: t)) hl_18 ?_ ?_; exact sb; clear hl_18
     rintro ⟨v1, M2, L2⟩ _ hb_20; unfold m_tariff_builder_ordered_1_h_l1 at hb_20; try dsimp only at hb_20
     try dsimp only
     refine sg fun K k => ?_
     refine oo ?_
     refine AOps.nil (k _ ?_)
     refine AWp.seq fun _ K_23 => ?_
     refine cd hb_20 (fun hb_20 => ?_) (fun hb_20 => ?_)
     ·refine AWp.skip ?_
      refine K_23 _ ?_
      refine AWp.seq fun _ K_25 => ?_
      refine AWp.block ?_
      refine sg fun K k => ?_
      obtain ⟨e3, ⟨f_26, f_27, f_28, f_29⟩, hb_20⟩ := idx_bind hb_20
      refine oo ?_
      refine oo ?_ (by intro K k; simp (disch := omega) only [go_sem, f_28, ↓reduceIte]; exact k)
      refine oo ?_
      refine AOps.nil (k _ ?_)
      refine sg fun K k => ?_
      iterate 2 refine oo ?_
      obtain ⟨r2, hx_30, hb_20⟩ := bind_some hb_20
      refine clD [(0, 0), (1, 1), (2, 2), (3, 3), (4, 4), (1005, 1005), (6, 6), (7, 7), (8, 8), (1009, 1009)] [1005, 1009] (ih M2 L2 o1 e3 _ hx_30) ?_
      refine oo ?_
      refine AOps.nil (k _ ?_)
      obtain ⟨e4, ⟨f_31, f_32, f_33, f_34⟩, hb_20⟩ := idx_bind hb_20
      try simp only [Int.toNat_natCast] at f_33 f_34
      have hF_35 := fun p => nelF_hole (c := 0) (i := ((l1.length : Int)).toNat) (F := Node.npv) f_33 p
      have hf_36 := nelF_focus (c := 0) (i := ((l1.length : Int)).toNat) (q := 1010) (F := Node.npv) f_33
      refine AWp.sub (fcs 0 (((l1.length : Int)).toNat) 1010 (⟨3, 1, dl (lenc (PD.int .i64) e4.To)⟩ : Row) (F := Node.npv) (g := Node.sub) f_33 (hl := by (simp only [renHeap, Row.ren, renL, PV.ren, dl_ren, mels_ren, optP_ren, foc_low, Nat.reduceLT, hf_36]; rfl))) ?_
      refine drX mo [(1010, [72, 75, 1001005])] ?_
      iterate 6 (refine dd ?_ (by intro K k; simp (disch := omega) only [go_sem, true_or, or_true, and_self, true_and, and_true, ↓reduceIte]; exact k))
      refine dd ?_ (by intro K k; simp (disch := omega) only [go_sem, hF_35, List.set_set, true_or, or_true, and_self, true_and, and_true, ↓reduceIte]; exact k)
      refine dd ?_ (by intro K k; simp (disch := omega) only [go_sem, true_or, or_true, and_self, true_and, and_true, ↓reduceIte]; exact k)
      refine ddl ?_ (by intro K k; simp (disch := omega) only [go_sem, true_or, or_true, and_self, true_and, and_true, ↓reduceIte]; exact k)
      obtain ⟨hg_37, hb_20⟩ := guardO_some hb_20
      refine dapH [72, 75, 1001005] [(1005, ⟨37, 3, (nelF 0 Node.npv r2.2.2).set (((l1.length : Int)).toNat) (.agg [.d (.int .i64 e4.Mark), .d (.imm 1 (lenc (PD.int .i64) e4.Cuts)), .slc 1010 0 e4.To.length])⟩)] (dl (lenc (PD.int .i64) [r2.1])) se26 ?_
      iterate 2 (refine dd ?_ (by intro K k; simp (disch := omega) only [go_sem, true_or, or_true, and_self, true_and, and_true, ↓reduceIte]; exact k))
      refine dd ?_ (by intro K k; simp (disch := omega) only [go_sem, hF_35, List.set_set, true_or, or_true, and_self, true_and, and_true, ↓reduceIte]; exact k)
      refine DOps.nil (by kernel_rfl) ?_
      refine K_25 _ ?_
      refine AWp.sub (drp [(2, .ptr 1 0 0), (4, .ptr 3 0 0), (9, .d (.int .i64 (l1.length : Int))), (11, .d (.int .i64 e3)), (12, .d (.int .i64 r2.1)), (57, .d (.imm 1 (lenc (PD.int .i64) e2.To))), (58, .d (.int .i64 (e2.To.length : Int))), (59, .d (.int .i64 v1)), (60, .d (.bool (decide (v1 < (e2.To.length : Int))))), (61, .dptr 1 (lenc (PD.int .i64) e2.To) ((v1).toNat) 0), (62, .d (.int .i64 e3)), (63, .func (.func 91) [.ptr 0 0 0, .ptr 1 0 0, .ptr 2 0 0, .ptr 3 0 0]), (64, .d (.int .i64 e3)), (65, .d (.int .i64 r2.1)), (66, .slc 1005 0 ((r2.2.2.set (((l1.length : Int)).toNat) (⟨e4.Mark, e4.Cuts, (e4.To ++ [r2.1])⟩ : Node)).length)), (67, .d (.int .i64 (l1.length : Int))), (68, .slc 1005 0 ((r2.2.2.set (((l1.length : Int)).toNat) (⟨e4.Mark, e4.Cuts, (e4.To ++ [r2.1])⟩ : Node)).length)), (69, .d (.int .i64 (l1.length : Int))), (70, .ptr 1005 (((l1.length : Int)).toNat) 0), (71, .ptr 1005 (((l1.length : Int)).toNat) 2), (73, .d (.int .i64 r2.1)), (74, .d (.imm 1 (lenc (PD.int .i64) [r2.1]))), (76, .ptr 1005 (((l1.length : Int)).toNat) 0), (77, .ptr 1005 (((l1.length : Int)).toNat) 2)]) ?_
      refine AWp.sub (ufc (F := Node.npv) (g := Node.sub) 0 (((l1.length : Int)).toNat) 1010 (⟨e4.Mark, e4.Cuts, (e4.To ++ [r2.1])⟩ : Node) [(0, ⟨133, 1, [.mp 4]⟩), (1, ⟨32, 1, [.slc 1005 0 ((r2.2.2.set (((l1.length : Int)).toNat) (⟨e4.Mark, e4.Cuts, (e4.To ++ [r2.1])⟩ : Node)).length)]⟩), (2, ⟨88, 1, [.ptr 6 0 0]⟩), (3, ⟨124, 1, [.func (.func 91) [.ptr 0 0 0, .ptr 1 0 0, .ptr 2 0 0, .ptr 3 0 0]]⟩), (4, ⟨133, 0, mels (PD.int .i64) (PD.int .i64) r2.2.1⟩), (6, ⟨92, 5, [.agg [.d (.int .i64 o1.k), .d (.imm 2 (lenc Rule.pd o1.rules)), .mp 7, .mp 8, .slc 1009 0 o1.nodes.length]]⟩), (7, ⟨89, 0, mels Arr3_Int.pd (PD.int .i64) o1.known⟩), (8, ⟨90, 0, mels PD.str (PD.int .i64) o1.same⟩), (1005, ⟨37, 3, nelF 0 Node.npv (r2.2.2.set (((l1.length : Int)).toNat) (⟨e4.Mark, e4.Cuts, (e4.To ++ [r2.1])⟩ : Node))⟩), (1009, ⟨37, 3, dl (lenc Node.pd o1.nodes)⟩)] f_34 (hl := by (repeat' (first | exact trivial | exact rfl | exact dl_ren _ _ | exact mels_ren _ _ _ _ | exact nelF_unfocus (by decide) f_34 | exact nelF_unfocus' (by decide) f_34 (by (simp only [go_sem, List.length_append, List.length_set, List.length_replicate, List.length_cons, List.length_nil, Nat.zero_add]; done)) | (simp only [renL, PV.ren, List.length_append, List.length_set, List.length_replicate, List.length_cons, List.length_nil, Nat.zero_add]; exact rfl) | apply And.intro)))) ?_
      refine AWp.reg ?_
      iterate 2 refine oo ?_
      refine AOps.nil ?_
      exact ln hb_20 sb
     ·refine AWp.exit ?_
      refine lx hb_20 fun hx => ?_; cases hx; try dsimp only at h2_19
      cases h2_19; exact sb
    ·rintro ⟨M1, L1⟩ h; dsimp only at h ⊢
     refine sg fun K k => ?_
     iterate 2 refine oo ?_
     refine AOps.nil (k _ ?_)
     refine AWp.ret ?_
     cases h; exact rtO
end Go.Pv.Tryd

namespace Go.Pv.Tryd
open Go.Proofs Go.Pv
theorem m_tariff_builder_ordered_h_ok (o1 : Builder) (top1 : Int) (r : ((List Node) × Builder)) (h : m_tariff_builder_ordered_h o1 top1 = some r) : ObjFn Tryd.prog G 59 [.ptr 0 0 0, .d (.int .i64 top1)] [(0, ⟨92, 5, [.agg [.d (.int .i64 o1.k), .d (.imm 2 (lenc Rule.pd o1.rules)), .mp 1, .mp 2, .slc 1003 0 o1.nodes.length]]⟩), (1, ⟨89, 0, mels Arr3_Int.pd (PD.int .i64) o1.known⟩), (2, ⟨90, 0, mels PD.str (PD.int .i64) o1.same⟩), (1003, ⟨37, 3, dl (lenc Node.pd o1.nodes)⟩)] (.d (.imm 3 (lenc Node.pd r.1))) [(0, ⟨92, 5, [.agg [.d (.int .i64 r.2.k), .d (.imm 2 (lenc Rule.pd r.2.rules)), .mp 1, .mp 2, .slc 1003 0 r.2.nodes.length]]⟩), (1, ⟨89, 0, mels Arr3_Int.pd (PD.int .i64) r.2.known⟩), (2, ⟨90, 0, mels PD.str (PD.int .i64) r.2.same⟩), (1003, ⟨37, 3, dl (lenc Node.pd r.2.nodes)⟩)] := by
 unfold m_tariff_builder_ordered_h at h
 refine ObjFn.pf Tryd.func59 Tryd.ntmps59 ?_
 refine sg fun K k => ?_
 iterate 2 refine oo ?_
 refine AOps.nil (k _ ?_)
 refine sg fun K k => ?_
 refine oo ?_
 refine AOps.sub (Sub.voidVar 1005 37 3 1006 rfl (by decide) rfl rfl (by decide) (by decide)) ?_
 simp only [hput, reduceCtorEq, ↓reduceIte, Nat.reduceAdd, Nat.reduceMul, Nat.reduceLT, Nat.reduceLeDiff, Nat.reduceEqDiff, Nat.reduceBEq, Int.reduceToNat]
 refine AOps.sub (nest0 0 Node.sub) ?_
 refine AOps.nil (k _ ?_)
 refine sg fun K k => ?_
 refine omk (α := Int) (β := Int) (PD.int .i64) (PD.int .i64) 1007 ?_
 iterate 2 refine oo ?_
 refine AOps.nil (k _ ?_)
 refine sg fun K k => ?_
 refine oo ?_
 refine AOps.nil (k _ ?_)
 refine sg fun K k => ?_
 iterate 2 refine oo ?_
 refine AOps.nil (k _ ?_)
 refine sg fun K k => ?_
 iterate 2 refine oo ?_
 obtain ⟨r1, hx_1, h⟩ := bind_some h
 refine clD [(0, 1008), (1, 1005), (2, 1004), (3, 1009), (4, 1007), (1005, 1006), (6, 0), (7, 1), (8, 2), (1009, 1003)] [1006, 1003] (m_tariff_builder_ordered_1_h_ok 100 [] [] o1 top1 _ hx_1) ?_
 refine AOps.nil (k _ ?_)
 refine sg fun K k => ?_
 iterate 2 refine oo ?_
 refine AOps.nil (k _ ?_)
 refine AWp.sub (unn 0 1006 Node.pd) ?_
 refine AWp.sub (τ := ⟨[(4, .d (.imm 3 (lenc Node.pd r1.2.2)))], [(0, ⟨92, 5, [.agg [.d (.int .i64 o1.k), .d (.imm 2 (lenc Rule.pd o1.rules)), .mp 1, .mp 2, .slc 1003 0 o1.nodes.length]]⟩), (1, ⟨89, 0, mels Arr3_Int.pd (PD.int .i64) o1.known⟩), (2, ⟨90, 0, mels PD.str (PD.int .i64) o1.same⟩), (1003, ⟨37, 3, dl (lenc Node.pd o1.nodes)⟩)], [], none⟩) sc ?_
 refine AWp.ret ?_
 cases h; exact rtO
end Go.Pv.Tryd

namespace Go.Pv.Tryd
open Go.Proofs Go.Pv
theorem m_tariff_Diagram_ok (k1 : Int) (t1 : (List Rule)) (r : ((List Node) × Int)) (h : m_tariff_Diagram k1 t1 = some r) : PureFn Tryd.prog G 26 [.d (.int .i64 k1), .d (.imm 2 (lenc Rule.pd t1))] (.tuple [.d (.imm 3 (lenc Node.pd r.1)), .d (.int .i64 r.2)]) := by
 unfold m_tariff_Diagram at h
 refine pf Tryd.func26 Tryd.ntmps26 ?_
 refine sg fun K k => ?_
 iterate 2 refine oo ?_
 refine AOps.nil (k _ ?_)
 refine AWp.seq fun _ K_1 => ?_
 refine sg fun K k => ?_
 iterate 2 refine oo ?_
 refine ol ?_
 obtain ⟨r1, hx_2, h⟩ := bind_some h
 refine cl (m_tariff_checked_ok k1 [t1] _ hx_2) ?_
 refine oo ?_
 refine AOps.nil (k _ ?_)
 refine sg fun K k => ?_
 iterate 2 refine oo ?_
 refine AOps.nil (k _ ?_)
 refine cd h (fun h => ?_) (fun h => ?_)
 ·refine sg fun K k => ?_
  iterate 3 refine oo ?_
  refine AOps.nil (k _ ?_)
  refine AWp.ret ?_
  cases h; exact rt
 ·refine AWp.skip ?_
  refine K_1 _ ?_
  refine sg fun K k => ?_
  iterate 2 refine oo ?_
  refine omk (α := Arr3_Int) (β := Int) Arr3_Int.pd (PD.int .i64) 1000 ?_
  refine omk (α := ByteArray) (β := Int) PD.str (PD.int .i64) 1001 ?_
  iterate 3 refine oo ?_
  refine AOps.sub (Sub.voidCell 1002 4 37 3 1003 (x := ⟨92, 5, [.agg [.d (.int .i64 k1), .d (.imm 2 (lenc Rule.pd t1)), .mp 1000, .mp 1001, .d .nilslice]]⟩) (p := .agg [.d (.int .i64 k1), .d (.imm 2 (lenc Rule.pd t1)), .mp 1000, .mp 1001, .d .nilslice]) (cs := [.d (.int .i64 k1), .d (.imm 2 (lenc Rule.pd t1)), .mp 1000, .mp 1001, .d .nilslice]) rfl (Nat.le_of_ble_eq_true rfl) rfl rfl rfl rfl rfl (by decide) (by decide)) ?_
  simp only [hput, List.set_cons_succ, List.set_cons_zero, reduceCtorEq, ↓reduceIte, Nat.reduceAdd, Nat.reduceMul, Nat.reduceLT, Nat.reduceLeDiff, Nat.reduceEqDiff, Nat.reduceBEq, Int.reduceToNat]
  refine AOps.nil (k _ ?_)
  refine sg fun K k => ?_
  iterate 2 refine oo ?_
  obtain ⟨r2, hx_4, h⟩ := bind_some h
  refine cl (m_tariff_all_ok t1 _ hx_4) ?_
  obtain ⟨r3, hx_5, h⟩ := bind_some h
  refine clU [(0, 1002), (1, 1000), (2, 1001), (1003, 1003)] [1003] (m_tariff_builder_at_h_ok 100 (⟨k1, t1, [], [], []⟩ : Builder) 0 r2 _ hx_5) ?_
  refine oo ?_
  refine AOps.nil (k _ ?_)
  refine AWp.seq fun _ K_6 => ?_
  refine sg fun K k => ?_
  iterate 2 refine oo ?_
  refine AOps.nil (k _ ?_)
  refine cd h (fun h => ?_) (fun h => ?_)
  ·refine sg fun K k => ?_
   refine ol ?_
   refine oo ?_
   refine ol ?_
   refine oo ?_
   refine ol ?_
   iterate 2 refine oo ?_
   refine AOps.nil (k _ ?_)
   refine AWp.ret ?_
   cases h; exact rt
  ·refine AWp.skip ?_
   refine K_6 _ ?_
   refine sg fun K k => ?_
   iterate 2 refine oo ?_
   obtain ⟨r4, hx_8, h⟩ := bind_some h
   refine clU [(0, 1002), (1, 1000), (2, 1001), (1003, 1003)] [1003] (m_tariff_builder_ordered_h_ok r3.2 r3.1 _ hx_8) ?_
   iterate 2 refine oo ?_
   refine AOps.nil (k _ ?_)
   refine AWp.ret ?_
   cases h; exact rt
end Go.Pv.Tryd

namespace Go.Pv.Tryd
open Go.Proofs Go.Pv
theorem m_cocketlaw02_same_ok (a1 : (List Int)) (b1 : (List Int)) (r : Bool) (h : m_cocketlaw02_same a1 b1 = some r) : PureFn Tryd.prog G 23 [.d (.imm 1 (lenc (PD.int .i64) a1)), .d (.imm 1 (lenc (PD.int .i64) b1))] (.d (.bool r)) := by
 unfold m_cocketlaw02_same at h
 refine pf Tryd.func23 Tryd.ntmps23 ?_
 refine sg fun K k => ?_
 refine oo ?_
 refine AOps.nil (k _ ?_)
 refine AWp.seq fun _ K_1 => ?_
 refine sg fun K k => ?_
 iterate 5 refine oo ?_
 refine AOps.nil (k _ ?_)
 refine cd h (fun h => ?_) (fun h => ?_)
 ·refine sg fun K k => ?_
  refine oo ?_
  refine AOps.nil (k _ ?_)
  refine AWp.ret ?_
  cases h; exact rt
 ·refine AWp.skip ?_
  refine K_1 _ ?_
  refine jm (ι := Unit) [] [] (fun i t => t) (fun i t => t) .inl h ?_ ?_
  ·intro _ hj_4 h
   refine sg fun K k => ?_
   refine oo ?_
   refine AOps.nil (k _ ?_)
   refine AWp.block ?_
   obtain ⟨x_9, hl_6, h2_7⟩ := bind_some hj_4
   refine lp (S := Int) [0, 1] [] (fun i t => (5, .d (.int .i64 i)) :: t) (fun i t => t) hl_6 ?_ ?_; exact sb; clear hl_6
   rintro i1 _ hb_8; unfold m_cocketlaw02_same_l1 at hb_8; try dsimp only at hb_8
   try dsimp only
   refine AWp.seq fun _ K_11 => ?_
   refine sg fun K k => ?_
   iterate 4 refine oo ?_
   refine AOps.nil (k _ ?_)
   refine cd hb_8 (fun hb_8 => ?_) (fun hb_8 => ?_)
   ·refine AWp.skip ?_
    refine K_11 _ ?_
    refine AWp.seq fun _ K_13 => ?_
    refine AWp.block ?_
    refine sd mo fun K k => ?_
    obtain ⟨e1, ⟨f_14, f_15, f_16, f_17⟩, hb_8⟩ := idx_bind hb_8
    iterate 3 refine dd ?_
    refine dd ?_ (by intro K k; simp (disch := omega) only [go_sem, f_16, ↓reduceIte]; exact k)
    obtain ⟨e2, ⟨f_18, f_19, f_20, f_21⟩, hb_8⟩ := idx_bind hb_8
    iterate 3 refine dd ?_
    refine dd ?_ (by intro K k; simp (disch := omega) only [go_sem, f_20, ↓reduceIte]; exact k)
    refine dd ?_
    refine DOps.nil (by kernel_rfl) (k _ ?_)
    refine cd hb_8 (fun hb_8 => ?_) (fun hb_8 => ?_)
    ·refine sg fun K k => ?_
     refine oo ?_
     refine AOps.nil (k _ ?_)
     refine AWp.ret ?_
     refine lx hb_8 fun hx => ?_; cases hx; try dsimp only at h2_7
     cases h2_7; try dsimp only at h
     cases h; exact rt
    ·refine AWp.skip ?_
     refine K_13 _ ?_
     refine AWp.reg ?_
     iterate 3 refine oo ?_
     refine AOps.nil ?_
     exact ln hb_8 sb
   ·refine AWp.exit ?_
    refine lx hb_8 fun hx => ?_; cases hx; try dsimp only at h2_7
    exact ln h2_7 sb
  ·rintro _ h; dsimp only at h ⊢
   refine sg fun K k => ?_
   refine oo ?_
   refine AOps.nil (k _ ?_)
   refine AWp.ret ?_
   cases h; exact rt
end Go.Pv.Tryd

namespace Go.Pv.Tryd
open Go.Proofs Go.Pv
set_option maxHeartbeats 4000000 in
theorem m_cocketlaw02_alive_ok (r : Bool) (h : m_cocketlaw02_alive = some r) : PureFn Tryd.prog G 19 [] (.d (.bool r)) := by
 unfold m_cocketlaw02_alive at h
 refine pf Tryd.func19 Tryd.ntmps19 ?_
 refine sg fun K k => ?_
 refine oo ?_
 refine AOps.nil (k _ ?_)
 refine sg fun K k => ?_
 obtain ⟨r1, hx_1, h⟩ := bind_some h
 refine cl (m_cocketlaw02_three_ok _ hx_1) ?_
 obtain ⟨r2, hx_2, h⟩ := bind_some h
 refine cl (m_tariff_Dead_ok 1 r1 _ hx_2) ?_
 iterate 5 refine oo ?_
 refine AOps.nil (k _ ?_)
 refine sg fun K k => ?_
 obtain ⟨r3, hx_3, h⟩ := bind_some h
 refine cl (m_cocketlaw02_three_ok _ hx_3) ?_
 obtain ⟨r4, hx_4, h⟩ := bind_some h
 refine cl (m_tariff_Gap_ok 1 r3 _ hx_4) ?_
 iterate 5 refine oo ?_
 refine AOps.nil (k _ ?_)
 refine sg fun K k => ?_
 obtain ⟨r5, hx_5, h⟩ := bind_some h
 refine cl (m_cocketlaw02_three_ok _ hx_5) ?_
 obtain ⟨r6, hx_6, h⟩ := bind_some h
 refine cl (m_tariff_Diagram_ok 1 r5 _ hx_6) ?_
 iterate 5 refine oo ?_
 refine AOps.nil (k _ ?_)
 refine sg fun K k => ?_
 iterate 3 refine oo ?_
 obtain ⟨b1, hc_7, h⟩ := bind_some h
 refine ct 4 [3, 4, 5, 6] [] (fun  t => (28, .d (.bool b1)) :: t) ?_ ?_
 ·rcases bt (decide (r2.2 = 0)) with hg_9 | hg_9
  ·rw [hg_9]
   rw [hg_9, cond_true] at hc_7
   refine oo ?_
   refine ol ?_
   obtain ⟨r7, hx_8, hc_7⟩ := bind_some hc_7
   refine cl (m_cocketlaw02_same_ok r2.1 [2] _ hx_8) ?_
   refine oo ?_
   refine AOps.nil ?_
   cases hc_7
   exact sb
  ·rw [hg_9]
   rw [hg_9, cond_false] at hc_7
   iterate 4 refine oo ?_
   refine AOps.nil ?_
   cases hc_7
   exact sb
 refine oo ?_
 refine ct 3 [3, 5, 6] [] (fun  t => (32, .d (.bool (b1 && (decide (r4.2 = 0))))) :: t) ?_ ?_
 ·rcases bt b1 with hg_11 | hg_11
  ·rw [hg_11]
   iterate 3 refine oo ?_
   refine AOps.nil ?_
   exact sb
  ·rw [hg_11]
   iterate 3 refine oo ?_
   refine AOps.nil ?_
   exact sb
 refine oo ?_
 obtain ⟨b2, hc_12, h⟩ := bind_some h
 refine ct 4 [5, 6] [] (fun  t => (37, .d (.bool b2)) :: t) ?_ ?_
 ·rcases bt (b1 && (decide (r4.2 = 0))) with hg_14 | hg_14
  ·rw [hg_14]
   rw [hg_14, cond_true] at hc_12
   refine oo ?_
   refine ol ?_
   obtain ⟨r8, hx_13, hc_12⟩ := bind_some hc_12
   refine cl (m_cocketlaw02_same_ok r4.1 [20] _ hx_13) ?_
   refine oo ?_
   refine AOps.nil ?_
   cases hc_12
   exact sb
  ·rw [hg_14]
   rw [hg_14, cond_false] at hc_12
   iterate 4 refine oo ?_
   refine AOps.nil ?_
   cases hc_12
   exact sb
 refine oo ?_
 refine ct 3 [5] [] (fun  t => (41, .d (.bool (b2 && (decide (r6.2 = 0))))) :: t) ?_ ?_
 ·rcases bt b2 with hg_16 | hg_16
  ·rw [hg_16]
   iterate 3 refine oo ?_
   refine AOps.nil ?_
   exact sb
  ·rw [hg_16]
   iterate 3 refine oo ?_
   refine AOps.nil ?_
   exact sb
 refine oo ?_
 refine ct 4 [5] [] (fun  t => (46, .d (.bool ((b2 && (decide (r6.2 = 0))) && (decide ((r6.1.length : Int) = 1))))) :: t) ?_ ?_
 ·rcases bt (b2 && (decide (r6.2 = 0))) with hg_18 | hg_18
  ·rw [hg_18]
   iterate 4 refine oo ?_
   refine AOps.nil ?_
   exact sb
  ·rw [hg_18]
   iterate 4 refine oo ?_
   refine AOps.nil ?_
   exact sb
 refine oo ?_
 obtain ⟨b3, hc_19, h⟩ := bind_some h
 refine ct 7 [] [] (fun  t => (54, .d (.bool b3)) :: t) ?_ ?_
 ·rcases bt ((b2 && (decide (r6.2 = 0))) && (decide ((r6.1.length : Int) = 1))) with hg_25 | hg_25
  ·rw [hg_25]
   rw [hg_25, cond_true] at hc_19
   obtain ⟨e1, ⟨f_20, f_21, f_22, f_23⟩, hc_19⟩ := idx_bind hc_19
   try simp only [Int.reduceToNat] at f_22 f_23
   iterate 3 refine oo ?_
   refine oo ?_ (by intro K k; simp (disch := omega) only [go_sem, f_22, ↓reduceIte]; exact k)
   refine ol ?_
   obtain ⟨r9, hx_24, hc_19⟩ := bind_some hc_19
   refine cl (m_cocketlaw02_same_ok e1.To [(-3), (-4), (-1)] _ hx_24) ?_
   refine oo ?_
   refine AOps.nil ?_
   cases hc_19
   exact sb
  ·rw [hg_25]
   rw [hg_25, cond_false] at hc_19
   iterate 7 refine oo ?_
   refine AOps.nil ?_
   cases hc_19
   exact sb
 refine oo ?_
 refine AOps.nil (k _ ?_)
 refine AWp.ret ?_
 cases h; exact rt
end Go.Pv.Tryd

namespace Go.Pv.Tryd
open Go.Proofs Go.Pv
theorem app_els {α : Type} {f : α → PD} {L : List α} {a b : Nat} : (dl (lenc f L)).take a ++ dl (lenc f (L.drop b)) ++ (dl (lenc f L)).drop (a + (dl (lenc f (L.drop b))).length) = dl (lenc f (L.take a ++ L.drop b ++ L.drop (a + (L.length - b)))) := by
  simp [dl, lenc, List.map_take, List.map_drop]
theorem leDL_app : ∀ (l : List PD) {m n : List PD}, leDL m n → leDL (l ++ m) (l ++ n)
  | [], _, _, h => h
  | x :: l, _, _, h => by simp only [List.cons_append, leDL]; exact ⟨leD_refl x, leDL_app l h⟩
theorem clr_raw {L : List Rule} {a b : Nat} (hab : a ≤ b) (hb : b ≤ L.length) : (dl (lenc Rule.pd (L.take a ++ L.drop b ++ L.drop (a + (L.length - b))))).take (a + (L.length - b)) ++ List.replicate (L.length - (a + (L.length - b))) (PV.d (.agg [.nilslice, (.int .i64 0)])) ++ (dl (lenc Rule.pd (L.take a ++ L.drop b ++ L.drop (a + (L.length - b))))).drop (a + (L.length - b) + (L.length - (a + (L.length - b)))) = dl (lenc Rule.pd (L.take a ++ L.drop b) ++ List.replicate (b - a) (.agg [.nilslice, (.int .i64 0)])) := by
  have e1 : (L.take a ++ L.drop b ++ L.drop (a + (L.length - b))).take (a + (L.length - b)) = L.take a ++ L.drop b := by
    rw [List.take_append_of_le_length (by simp; omega), List.take_of_length_le (by simp; omega)]
  have e2 : (L.take a ++ L.drop b ++ L.drop (a + (L.length - b))).drop (a + (L.length - b) + (L.length - (a + (L.length - b)))) = [] := List.drop_eq_nil_of_le (by simp; omega)
  have e3 : L.length - (a + (L.length - b)) = b - a := by omega
  have t : ∀ (M : List Rule) k, (dl (lenc Rule.pd M)).take k = dl (lenc Rule.pd (M.take k)) := fun M k => by simp [dl, lenc, List.map_take]
  have d : ∀ (M : List Rule) k, (dl (lenc Rule.pd M)).drop k = dl (lenc Rule.pd (M.drop k)) := fun M k => by simp [dl, lenc, List.map_drop]
  rw [t, d, e1, e2, e3]
  simp [dl, lenc]
theorem clr_le {L : List Rule} {a b : Nat} : leVL (dl (lenc Rule.pd (L.take a ++ L.drop b) ++ List.replicate (b - a) (.agg [.nilslice, (.int .i64 0)]))) (dl (lenc Rule.pd (delP L (a : Int) (b : Int)))) := by
  have e : lenc Rule.pd (delP L (a : Int) (b : Int)) = lenc Rule.pd (L.take a ++ L.drop b) ++ lenc Rule.pd (List.replicate (b - a) (⟨[], 0⟩ : Rule)) := by
    unfold delP
    rw [Int.toNat_natCast, Int.toNat_natCast, show ((b : Int) - (a : Int)).toNat = b - a by omega]
    simp [lenc]
  rw [e]
  refine leVL_dl (leDL_app _ ?_)
  rw [← lenc_rep]
  exact leDL_rep (by simp [leD, leDL, Rule.pd, lenc, slenc]) _
theorem clr_nb {L : List Rule} {a b : Nat} : (dl (lenc Rule.pd (L.take a ++ L.drop b) ++ List.replicate (b - a) (.agg [.nilslice, (.int .i64 0)]))).all (fun p => !isByte p) = true := by
  rw [List.all_eq_true]
  intro p hp
  unfold dl at hp
  obtain ⟨q, hq, rfl⟩ := List.mem_map.1 hp
  rcases List.mem_append.1 hq with h | h
  · unfold lenc at h
    obtain ⟨r, _, rfl⟩ := List.mem_map.1 h
    rfl
  · rw [List.eq_of_mem_replicate h]; rfl
theorem delete_hand (L : List Rule) (i j : Int) (h : delOk L i j = true) : HandFn Tryd.prog G 74 [.slc 0 0 L.length, .d (.int .i64 i), .d (.int .i64 j)] 0 56 2 (lenc Rule.pd L) (.slc 0 0 (delN L i j)) (lenc Rule.pd (delP L i j)) := by
  unfold delOk at h
  rw [decide_eq_true_eq] at h
  obtain ⟨h1, h2, h3, h4⟩ := h
  obtain ⟨a, rfl⟩ : ∃ a : Nat, i = a := ⟨i.toNat, by omega⟩
  obtain ⟨b, rfl⟩ : ∃ b : Nat, j = b := ⟨j.toNat, by omega⟩
  have hab : a ≤ b := by omega
  have hbn : b ≤ L.length := by omega
  have hN : delN L (a : Int) (b : Int) = a + (L.length - b) := by unfold delN; omega
  refine HandFn.pf Tryd.func74 Tryd.ntmps74 (by unfold delP; simp [lenc]; omega) ?_
  refine sg fun K k => ?_
  refine oo ?_
  refine AOps.nil (k _ ?_)
  refine sg fun K k => ?_
  iterate 5 refine oo ?_
  refine on (fun K' hK' => OpT.slice3 (by rfl) ty22 T22_desc ty56 (by rfl) (by rfl) (by rfl) (by rfl) (by omega) (by omega) (by omega) (by omega) (by simp only [go_sem, ↓reduceIte]) (hK' _ ?_))
  simp only [go_sem, ↓reduceIte]
  refine AOps.nil (k _ ?_)
  refine AWp.seq fun _ K_1 => ?_
  refine sg fun K k => ?_
  iterate 3 refine oo ?_
  refine AOps.nil (k _ ?_)
  refine AWp.cond (by rfl) (fun hb => ?_) (fun hb => ?_)
  · have e : a = b := by simp at hb; omega
    subst e
    refine sg fun K k => ?_
    iterate 2 refine oo ?_
    refine AOps.nil (k _ ?_)
    refine AWp.ret ?_
    have e1 : delN L (a : Int) (a : Int) = L.length := by unfold delN; omega
    have e2 : delP L (a : Int) (a : Int) = L := by unfold delP; simp
    rw [e1, e2]
    exact rtHand (hp := by simp only [go_sem, ↓reduceIte]) (hpr := rfl) (hh := rfl)
  · have hlt : a < b := by simp at hb; omega
    refine AWp.skip ?_
    refine K_1 _ ?_
    refine sg fun K k => ?_
    iterate 3 refine oo ?_
    refine AOps.nil (k _ ?_)
    refine sd mo fun K k => ?_
    iterate 3 refine dd ?_
    iterate 2 refine dd ?_
    by_cases hjn : b = L.length
    · subst hjn
      refine dn rfl (fun K' hK' => OpX.sliceEnd (by rfl) ty22 T22_desc ty56 (by rfl) (by rfl) (by simp only [go_sem]) 2 (by simp only [go_sem]) (hK' _ _ ?_))
      simp only [go_sem, ↓reduceIte, show ((a : Int) - 0).toNat = a by omega]
      refine dn rfl (fun K' hK' => OpX.solo (σ1 := ⟨_, [(0, ⟨56, 2, dl (lenc Rule.pd (L.take a ++ L.drop L.length ++ L.drop (a + (L.length - L.length))))⟩)], [], none⟩) rfl rfl (OpT.appendIn (r := 0) (n := a) (row := ⟨56, 2, dl (lenc Rule.pd L)⟩) (L := dl (lenc Rule.pd (L.drop L.length))) (by rfl) ty22 T22_desc ty56 (by rw [T56_size]; decide) (by rfl) (by rfl) (by rfl) (by rw [T56_size]) (by show srcV T56.size _ (.d (.imm 2 [])) = _; simp only [srcV, ↓reduceIte, T56_size]; simp [dl, lenc]) (by simp [dl, lenc] <;> omega) (by simp only [go_sem]) (hK := by rw [app_els, show (dl (lenc Rule.pd (L.drop L.length))).length = L.length - L.length by simp [dl, lenc]]; simp only [St.put, eput, hput, ↓reduceIte, Nat.reduceEqDiff]; rfl)) (hK' _ _ ?_))
      refine dd ?_
      refine DOps.nil (by kernel_rfl) (k _ ?_)
      refine sg fun K k => ?_
      iterate 4 refine oo ?_
      refine on (fun K' hK' => OpT.sliceIn (r := 0) (n := a + (L.length - L.length)) (row := ⟨56, 2, dl (lenc Rule.pd (L.take a ++ L.drop L.length ++ L.drop (a + (L.length - L.length))))⟩) (a1 := a + (L.length - L.length)) (b1 := L.length) (by rfl) ty22 T22_desc ty56 (by rfl) (by rfl) (by rw [T56_size]) (by rfl) (by rfl) (by omega) (by simp [dl, lenc] <;> omega) (by simp [dl, lenc] <;> omega) (by simp only [go_sem]) (hK' _ ?_))
      simp only [go_sem, ↓reduceIte]
      obtain ⟨zv, z1, z2, z3, z4⟩ := zeroPV_some T56_zero
      refine on (fun K' hK' => OpT.clear (r := 0) (lo := a + (L.length - L.length)) (n := L.length - (a + (L.length - L.length))) (row := ⟨56, 2, dl (lenc Rule.pd (L.take a ++ L.drop L.length ++ L.drop (a + (L.length - L.length))))⟩) (by rfl) ty22 T22_desc ty56 z1 z2 z3 z4 (by rfl) (by rfl) (by rw [T56_size]) (by rfl) (hK := hK' _ ?_))
      dsimp only
      rw [clr_raw hab hbn]
      simp only [hput, ↓reduceIte]
      refine AOps.nil (k _ ?_)
      refine AWp.sub (Sub.rows [(0, ⟨56, 2, dl (lenc Rule.pd (delP L (a : Int) (L.length : Int)))⟩)] ⟨⟨_, rfl, rfl, rfl, clr_le, .inr clr_nb⟩, trivial⟩) ?_
      simp only [hconv, hget, ↓reduceIte]
      refine sg fun K k => ?_
      iterate 2 refine oo ?_
      refine AOps.nil (k _ ?_)
      refine AWp.ret ?_
      exact rtHand (p := .slc 0 0 (a + (L.length - L.length))) (hp := by simp only [go_sem, ↓reduceIte]) (hpr := by rw [hN]) (hh := rfl)
    · refine dd ?_
      simp only [show ((a : Int) - 0).toNat = a by omega, Int.toNat_natCast, show ((L.length : Int) - (b : Int)).toNat = L.length - b by omega]
      refine dn rfl (fun K' hK' => OpX.solo (σ1 := ⟨_, [(0, ⟨56, 2, dl (lenc Rule.pd (L.take a ++ L.drop b ++ L.drop (a + (L.length - b))))⟩)], [], none⟩) rfl rfl (OpT.appendIn (r := 0) (n := a) (row := ⟨56, 2, dl (lenc Rule.pd L)⟩) (L := dl (lenc Rule.pd (L.drop b))) (by rfl) ty22 T22_desc ty56 (by rw [T56_size]; decide) (by rfl) (by rfl) (by rfl) (by rw [T56_size]) (by show srcV T56.size _ (.slc 0 b (L.length - b)) = _; simp only [srcV, hget, ↓reduceIte, T56_size]; rw [List.take_of_length_le (by simp [dl, lenc])]; simp [dl, lenc, List.map_drop]) (by simp [dl, lenc] <;> omega) (by simp only [go_sem]) (hK := by rw [app_els, show (dl (lenc Rule.pd (L.drop b))).length = L.length - b by simp [dl, lenc]]; simp only [St.put, eput, hput, ↓reduceIte, Nat.reduceEqDiff]; rfl)) (hK' _ _ ?_))
      refine dd ?_
      refine DOps.nil (by kernel_rfl) (k _ ?_)
      refine sg fun K k => ?_
      iterate 4 refine oo ?_
      refine on (fun K' hK' => OpT.sliceIn (r := 0) (n := a + (L.length - b)) (row := ⟨56, 2, dl (lenc Rule.pd (L.take a ++ L.drop b ++ L.drop (a + (L.length - b))))⟩) (a1 := a + (L.length - b)) (b1 := L.length) (by rfl) ty22 T22_desc ty56 (by rfl) (by rfl) (by rw [T56_size]) (by rfl) (by rfl) (by omega) (by simp [dl, lenc] <;> omega) (by simp [dl, lenc] <;> omega) (by simp only [go_sem]) (hK' _ ?_))
      simp only [go_sem, ↓reduceIte]
      obtain ⟨zv, z1, z2, z3, z4⟩ := zeroPV_some T56_zero
      refine on (fun K' hK' => OpT.clear (r := 0) (lo := a + (L.length - b)) (n := L.length - (a + (L.length - b))) (row := ⟨56, 2, dl (lenc Rule.pd (L.take a ++ L.drop b ++ L.drop (a + (L.length - b))))⟩) (by rfl) ty22 T22_desc ty56 z1 z2 z3 z4 (by rfl) (by rfl) (by rw [T56_size]) (by rfl) (hK := hK' _ ?_))
      dsimp only
      rw [clr_raw hab hbn]
      simp only [hput, ↓reduceIte]
      refine AOps.nil (k _ ?_)
      refine AWp.sub (Sub.rows [(0, ⟨56, 2, dl (lenc Rule.pd (delP L (a : Int) (b : Int)))⟩)] ⟨⟨_, rfl, rfl, rfl, clr_le, .inr clr_nb⟩, trivial⟩) ?_
      simp only [hconv, hget, ↓reduceIte]
      refine sg fun K k => ?_
      iterate 2 refine oo ?_
      refine AOps.nil (k _ ?_)
      refine AWp.ret ?_
      exact rtHand (p := .slc 0 0 (a + (L.length - b))) (hp := by simp only [go_sem, ↓reduceIte]) (hpr := by rw [hN]) (hh := rfl)
end Go.Pv.Tryd

namespace Go.Pv.Tryd
open Go.Proofs Go.Pv
theorem m_tariff_differ_1_ok (t1 : (List Rule)) (i1 : Int) (r : Int) (h : m_tariff_differ_1 t1 i1 = some r) : PureFn Tryd.prog G 94 [.d (.imm 2 (lenc Rule.pd t1)), .d (.int .i64 i1)] (.d (.int .i64 r)) := by
 unfold m_tariff_differ_1 at h
 refine pf Tryd.func94 Tryd.ntmps94 ?_
 refine sg fun K k => ?_
 refine oo ?_
 refine AOps.nil (k _ ?_)
 refine AWp.seq fun _ K_1 => ?_
 refine sg fun K k => ?_
 iterate 2 refine oo ?_
 refine AOps.nil (k _ ?_)
 refine cd h (fun h => ?_) (fun h => ?_)
 ·refine sg fun K k => ?_
  refine oo ?_
  refine AOps.nil (k _ ?_)
  refine AWp.ret ?_
  cases h; exact rt
 ·refine AWp.skip ?_
  refine K_1 _ ?_
  refine sg fun K k => ?_
  obtain ⟨e1, ⟨f_3, f_4, f_5, f_6⟩, h⟩ := idx_bind h
  iterate 4 refine oo ?_
  refine oo ?_ (by intro K k; simp (disch := omega) only [go_sem, f_5, ↓reduceIte]; exact k)
  refine oo ?_
  refine AOps.nil (k _ ?_)
  refine AWp.ret ?_
  cases h; exact rt
end Go.Pv.Tryd

namespace Go.Pv.Tryd
open Go.Proofs Go.Pv
theorem m_tariff_differ_2_f94_ok (i1 : Int) (j1 : Int) (k1 : (List Rule)) (k2 : (List Rule)) (r : Bool) (h : m_tariff_differ_2_f94 i1 j1 k1 k2 = some r) : PureFn Tryd.prog G 95 [.d (.int .i64 i1), .d (.int .i64 j1), .dptr 1 [(.fn (.func 94))] 0 0, .dptr 1 [(.imm 2 (lenc Rule.pd k1))] 0 0, .dptr 1 [(.imm 2 (lenc Rule.pd k2))] 0 0] (.d (.bool r)) := by
 unfold m_tariff_differ_2_f94 at h
 refine pf Tryd.func95 Tryd.ntmps95 ?_
 refine sg fun K k => ?_
 refine oo ?_
 refine AOps.nil (k _ ?_)
 refine sd mo fun K k => ?_
 iterate 3 refine dd ?_
 obtain ⟨r1, hx_1, h⟩ := bind_some h
 refine dclC (m_tariff_differ_1_ok k1 i1 _ hx_1) ?_
 iterate 3 refine dd ?_
 refine DOps.stop (by kernel_rfl) ?_
 obtain ⟨r2, hx_2, h⟩ := bind_some h
 refine clV (m_tariff_differ_1_ok k2 j1 _ hx_2) ?_
 iterate 2 refine oo ?_
 refine AOps.nil (k _ ?_)
 refine AWp.ret ?_
 cases h; exact rt
end Go.Pv.Tryd

