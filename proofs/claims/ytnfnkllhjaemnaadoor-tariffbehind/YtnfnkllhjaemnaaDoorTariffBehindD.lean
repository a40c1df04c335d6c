/- TariffBehind answers true for every input, as its tied card says: under the conditions of the card (Rows, Cards, Tie), no more. Part 4 of 7: by one AI agent and its programs; no person has read it. -/
import Derived.Test.YtnfnkllhjaemnaaDoorTariffBehindA
import Derived.Test.YtnfnkllhjaemnaaDoorTariffBehindB
import Derived.Test.YtnfnkllhjaemnaaDoorTariffBehindC
import Derived.Lib.ItoaNum
import Derived.Test.YtnfnkllhjaemnaaDoorProg
import Derived.KernelRfl
set_option linter.unusedSimpArgs false
set_option linter.unusedVariables false
set_option linter.all false

namespace Go.Pv
section
variable {P : Program} {G : List (Nat × PD)} {B : Base P} {N : Nat} {σ τ : St} {a : Act} {w : World} {φ φ' : Nm} {H H' : Heap} {ρ : Nat → Nat}
theorem Row.ren_len (x : Row) : (x.ren ρ).els.length = x.els.length := by simp [Row.ren, renL_length]
theorem RepV.renamed {X : Nat → Prop} (hrow : ∀ r x, hget H r = some x → hget H' (ρ r) = some (x.ren ρ) ∧ φ' (ρ r) = φ r) (hown : ∀ b, own φ' H' b ↔ own φ H b) {v : Value} {p : PV} (h : RepV w X φ H v p) : RepV w X φ' H' v (p.ren ρ) := by
  have hd : ∀ b, okd w X φ H b → okd w X φ' H' b := fun b hb => ⟨hb.1, hb.2.1, fun ho => hb.2.2 ((hown b).1 ho)⟩
  have hb' : ∀ b, okb w φ H b → okb w φ' H' b := fun b hb => ⟨hb.1, fun ho => hb.2 ((hown b).1 ho)⟩
  induction h with
  | any v => simp only [PV.ren]; exact .any v
  | d h => simp only [PV.ren]; exact .d (h.mono hd (fun _ _ => rfl))
  | b h => simp only [PV.ren]; exact .b (h.mono hb' (fun _ _ => rfl))
  | @ptr r i off b x hx hb hk =>
    simp only [PV.ren]
    obtain ⟨h1, h2⟩ := hrow _ _ hx
    exact .ptr (x := x.ren ρ) h1 (h2.trans hb) hk
  | dptr h hi => simp only [PV.ren]; exact .dptr (h.mono hd (fun _ _ => rfl)) hi
  | bptr h hi => simp only [PV.ren]; exact .bptr (h.mono hb' (fun _ _ => rfl)) hi
  | glob g => simp only [PV.ren]; exact .glob g
  | @slc r lo n cap b x hx hb hk hn hc hl hz =>
    simp only [PV.ren]
    obtain ⟨h1, h2⟩ := hrow _ _ hx
    exact .slc (x := x.ren ρ) h1 (h2.trans hb) hk (by rw [Row.ren_len]; exact hn) hc (by rw [Row.ren_len]; exact hl) hz
  | @slc0 r x p hx hb hk hp =>
    simp only [PV.ren]
    obtain ⟨h1, h2⟩ := hrow _ _ hx
    exact .slc0 (x := x.ren ρ) h1 (h2.trans hb) hk hp
  | @mp r b x hx hb hk =>
    simp only [PV.ren]
    obtain ⟨h1, h2⟩ := hrow _ _ hx
    exact .mp (x := x.ren ρ) h1 (h2.trans hb) hk
  | func hs _ ih =>
    simp only [PV.ren]
    exact .func (by rw [renL_length]; exact hs) fun i hi => by rw [renL_get _ _ i (by rw [renL_length] at hi; exact hi) hi]; exact ih i (by rw [renL_length] at hi; exact hi)
  | agg hs _ hf ih =>
    simp only [PV.ren]
    exact .agg (by rw [renL_length]; exact hs) (fun i hi => by rw [renL_get _ _ i (by rw [renL_length] at hi; exact hi) hi]; exact ih i (by rw [renL_length] at hi; exact hi)) fun i hi => hf i (by rw [renL_length] at hi; exact hi)
  | tuple hs _ ih =>
    simp only [PV.ren]
    exact .tuple (by rw [renL_length]; exact hs) fun i hi => by rw [renL_get _ _ i (by rw [renL_length] at hi; exact hi) hi]; exact ih i (by rw [renL_length] at hi; exact hi)
structure Renames (σ τ : St) (ρ : Nat → Nat) : Prop where
  env : ∀ t, eget τ.env t = (eget σ.env t).ren ρ
  row : ∀ r x, hget σ.heap r = some x → hget τ.heap (ρ r) = some (x.ren ρ)
  all : ∀ s y, hget τ.heap s = some y → ∃ r x, hget σ.heap r = some x ∧ s = ρ r
  inj : ∀ r s x y, hget σ.heap r = some x → hget σ.heap s = some y → ρ r = ρ s → r = s
  pin : ∀ r x, hget σ.heap r = some x → r < 1000 → ρ r = r
  big : ∀ r x, hget σ.heap r = some x → 1000 ≤ r → 1000 ≤ ρ r
  dfr : τ.dfr = σ.dfr.map (PV.ren ρ)
  gh : σ.gh = τ.gh
open Classical in
noncomputable def renNm (φ : Nm) (H : Heap) (ρ : Nat → Nat) : Nm := ⟨fun s => if h : ∃ r, (hget H r).isSome = true ∧ ρ r = s then φ (Classical.choose h) else none, φ.T⟩
open Classical in
theorem renNm_at (hi : ∀ r s x y, hget H r = some x → hget H s = some y → ρ r = ρ s → r = s) {r : Nat} {x : Row} (h : hget H r = some x) : (renNm φ H ρ) (ρ r) = φ r := by
  have hex : ∃ r', (hget H r').isSome = true ∧ ρ r' = ρ r := ⟨r, by rw [h]; rfl, rfl⟩
  show (if h : ∃ r', (hget H r').isSome = true ∧ ρ r' = ρ r then φ (Classical.choose h) else none) = _
  rw [dif_pos hex]
  obtain ⟨h1, h2⟩ := Classical.choose_spec hex
  obtain ⟨y, hy⟩ := Option.isSome_iff_exists.1 h1
  rw [hi _ _ _ _ hy h h2]
theorem Sub.ren (h : Renames σ τ ρ) : Sub G N σ τ := by
  intro P B a w φ hr
  have hat : ∀ r x, hget σ.heap r = some x → (renNm φ σ.heap ρ) (ρ r) = φ r := fun r x hx => renNm_at h.inj hx
  have hrow : ∀ b, rowB (renNm φ σ.heap ρ) τ.heap b ↔ rowB φ σ.heap b := fun b => by
    constructor
    · rintro ⟨s, y, h1, h2⟩
      obtain ⟨r, x, h3, rfl⟩ := h.all s y h1
      exact ⟨r, x, h3, (hat r x h3).symm.trans h2⟩
    · rintro ⟨r, x, h1, h2⟩
      exact ⟨ρ r, _, h.row r x h1, (hat r x h1).trans h2⟩
  have hown : ∀ b, own (renNm φ σ.heap ρ) τ.heap b ↔ own φ σ.heap b := fun b => or_congr (hrow b) Iff.rfl
  have hv : ∀ {v p}, RepV w B.X φ σ.heap v p → RepV w B.X (renNm φ σ.heap ρ) τ.heap v (p.ren ρ) := fun {v p} hv => hv.renamed (fun r x hx => ⟨h.row r x hx, hat r x hx⟩) hown
  have hd : ∀ b, okd w B.X φ σ.heap b → okd w B.X (renNm φ σ.heap ρ) τ.heap b := fun b hb => ⟨hb.1, hb.2.1, fun ho => hb.2.2 ((hown b).1 ho)⟩
  refine ⟨renNm φ σ.heap ρ, Rep.of_sit ⟨⟨fun s y b hs hb => ?_, fun s y hs hb => ?_, fun s t y z b hs ht hb hb' => ?_, fun b hT => ⟨(hr.heap.far b hT).1, (hr.heap.far b hT).2.1, fun ho => (hr.heap.far b hT).2.2 ((hrow b).1 ho)⟩⟩, hr.keeps, fun s y b hs hb => ?_, fun s y hs hp => ?_, fun s y b hs hp hb => ?_, ?_, hr.tnew, ?_⟩ hr.size (fun t => ?_) ?_⟩
  · obtain ⟨r, x, h1, rfl⟩ := h.all s y hs
    have h2 := h.row r x h1
    rw [hs] at h2; cases h2
    rw [hat r x h1] at hb
    refine (hr.heap.rows r x b h1 hb).turn rfl rfl (Row.ren_len x) (fun _ _ h => h) (hr.heap.rows r x b h1 hb).free (fun i hi hi' v hv' => ?_) fun z hz => by simp only [Row.ren, renL_map]; exact hz.map fun p hp => ren_byte ρ hp
    simp only [Row.ren]
    rw [renL_get _ _ i hi (by simpa [Row.ren] using hi')]
    exact hv hv'
  · obtain ⟨r, x, h1, rfl⟩ := h.all s y hs
    have h2 := h.row r x h1
    rw [hs] at h2; cases h2
    rw [hat r x h1] at hb
    have := hr.heap.void r x h1 hb
    simp [Row.ren, this, renL]
  · obtain ⟨r, x, h1, rfl⟩ := h.all s y hs
    obtain ⟨r', x', h1', rfl⟩ := h.all t z ht
    rw [hat r x h1] at hb
    rw [hat r' x' h1'] at hb'
    rw [hr.heap.inj r r' x x' b h1 h1' hb hb']
  · obtain ⟨r, x, h1, rfl⟩ := h.all s y hs
    rw [hat r x h1] at hb
    exact hr.new r x b h1 hb
  · obtain ⟨r, x, h1, rfl⟩ := h.all s y hs
    rcases Nat.lt_or_ge r 1000 with hl | hl
    · rw [hat r x h1, h.pin r x h1 hl]
      exact hr.pins r x h1 (by simp [pinned, hl])
    · have := h.big r x h1 hl
      simp [pinned] at hp; omega
  · obtain ⟨r, x, h1, rfl⟩ := h.all s y hs
    rcases Nat.lt_or_ge r 1000 with hl | hl
    · rw [hat r x h1] at hb
      exact hr.psz r x b h1 (by simp [pinned, hl]) hb
    · have := h.big r x h1 hl
      simp [pinned] at hp; omega
  · intro g y hm
    obtain ⟨c, e, f, v, h1, h2, h3, h4, h5, h6⟩ := hr.glob g y hm
    exact ⟨c, e, f, v, h1, fun ho => h2 ((hown g).1 ho), h3.mono hd (fun _ _ => rfl), h4, h5, h6⟩
  · rw [← h.gh]
    exact J_step (w := w) (φ := φ) (H := σ.heap) hr.inv rfl rfl rfl rfl (Nat.le_refl _) (fun _ _ _ => rfl) (fun b hb => .inl ((hrow b).1 hb))
  · rw [h.env t]; exact hv (hr.env t)
  · rw [h.dfr, ← h.gh]
    exact hr.dfr.map (fun D hD => ⟨hd D hD, rfl⟩) fun p _ v hv' => hv hv'
end
def renHeap (ρ : Nat → Nat) : Heap → Heap
  | [] => []
  | (r, x) :: l => (r, x.ren ρ) :: renHeap ρ l
def renEnv (ρ : Nat → Nat) : List (Nat × PV) → List (Nat × PV)
  | [] => []
  | (t, v) :: l => (t, v.ren ρ) :: renEnv ρ l
theorem hget_renHeap (ρ : Nat → Nat) : ∀ (l : Heap) (r : Nat), hget (renHeap ρ l) r = (hget l r).map (Row.ren ρ)
  | [], _ => rfl
  | (s, x) :: l, r => by
    simp only [renHeap, hget]
    split
    · rfl
    · exact hget_renHeap ρ l r
theorem eget_renEnv (ρ : Nat → Nat) : ∀ (l : List (Nat × PV)) (t : Nat), eget (renEnv ρ l) t = (eget l t).ren ρ
  | [], _ => by simp [renEnv, eget, PV.ren]
  | (s, x) :: l, t => by
    simp only [renEnv, eget]
    split
    · rfl
    · exact eget_renEnv ρ l t
def foc (c i q s : Nat) : Nat := if s = sn c i then q else s
def unf (c i q s : Nat) : Nat := if s = q then sn c i else s
theorem foc_low {c i q s : Nat} (h : s < 1000000) : foc c i q s = s := by unfold foc; rw [if_neg (by unfold sn; omega)]
theorem foc_at {c i q : Nat} : foc c i q (sn c i) = q := by simp [foc]
theorem unf_at {c i q : Nat} : unf c i q q = sn c i := by simp [unf]
theorem unf_ne {c i q s : Nat} (h : s ≠ q) : unf c i q s = s := by unfold unf; rw [if_neg h]
theorem sn_inj {c i j : Nat} (h : sn c i = sn c j) : i = j := by unfold sn at h; omega
theorem nelF_focus {α : Type} {c i q : Nat} {F : Nat → α → PV} [NestF F] {L : List α} {x : α} (h : L[i]? = some x) : renL (foc c i q) (nelF c F L) = (nelF c F L).set i (F q x) := by
  rw [renL_map]
  apply List.ext_getElem?
  intro j
  rw [List.getElem?_map, List.getElem?_set]
  simp only [nelF, nels_length, nels_get]
  by_cases hij : i = j
  · subst hij
    rw [h]; simp [NestF.ren, foc_at, (List.getElem?_eq_some_iff.1 h).1]
  · rw [if_neg hij]
    cases L[j]? with
    | none => rfl
    | some y =>
      simp only [Option.map_some, NestF.ren]
      unfold foc
      rw [if_neg (fun e => hij (sn_inj e).symm)]
theorem nelF_unfocus {α : Type} {c i q : Nat} {F : Nat → α → PV} [NestF F] {L : List α} {x : α} (hq : q < 1000000) (hi : i < L.length) : renL (unf c i q) ((nelF c F L).set i (F q x)) = nelF c F (L.set i x) := by
  rw [renL_map]
  apply List.ext_getElem?
  intro j
  rw [List.getElem?_map, List.getElem?_set]
  simp only [nelF, nels_length, nels_get, List.getElem?_set]
  by_cases hij : i = j
  · subst hij
    simp [hi, NestF.ren, unf_at]
  · rw [if_neg hij, if_neg hij]
    cases L[j]? with
    | none => rfl
    | some y =>
      simp only [Option.map_some, NestF.ren]
      rw [unf_ne (by unfold sn; omega)]
theorem nelF_unfocus' {α : Type} {c i q : Nat} {F : Nat → α → PV} [NestF F] {L : List α} {x : α} {p : PV} (hq : q < 1000000) (hi : i < L.length) (hp : p = F q x) : renL (unf c i q) ((nelF c F L).set i p) = nelF c F (L.set i x) := by
  rw [hp]; exact nelF_unfocus hq hi
theorem ren_dl (ρ : Nat → Nat) (l : List PD) : renL ρ (l.map PV.d) = l.map PV.d := by
  rw [renL_map, List.map_map]; rfl
theorem NestG.ren {α : Type} {g : α → Row} [NestG g] (ρ : Nat → Nat) (x : α) : (g x).ren ρ = g x := by
  obtain ⟨_, l, h⟩ := NestG.data (g := g) x
  simp only [Row.ren, h, ren_dl]
  cases hg : g x
  rw [hg] at h; simp only at h; subst h; rfl
section
variable {G : List (Nat × PD)} {N : Nat} {σ : St}
theorem Sub.focus {α : Type} (c i q : Nat) {F : Nat → α → PV} {g : α → Row} [NestF F] [NestG g] {L : List α} {x : α} {l l' : Heap} {e' : List (Nat × PV)} (hx : L[i]? = some x) (hs : σ.heap = dynH c (subs g L) l) (hlow : lows l) (hq : hget l q = none) (hq1 : 1000 ≤ q) (hq2 : q < 1000000)
    (hl : renHeap (foc c i q) l = l') (he : renEnv (foc c i q) σ.env = e') (hd : σ.dfr = []) : Sub G N σ ⟨e', dynH c ((subs g L).set i none) ((q, g x) :: l'), σ.dfr, σ.gh⟩ := by
  subst hl he
  have hsn : ∀ j, hget σ.heap (sn c j) = (L[j]?).map g := fun j => by rw [hs, hget_dyn_sn j hlow, subs_get]
  have hlo : ∀ r, r < 1000000 → hget σ.heap r = hget l r := fun r h => by rw [hs, hget_dyn h]
  have hcase : ∀ r x', hget σ.heap r = some x' → (∃ j, r = sn c j ∧ (L[j]?).map g = some x') ∨ (r < 1000000 ∧ hget l r = some x' ∧ r ≠ q) := fun r x' h => by
    rw [hs] at h
    rcases hget_dyn_some h with ⟨j, h1, h2⟩ | h
    · rw [subs_get] at h2; exact .inl ⟨j, h1, h2⟩
    · by_cases hr : r < 1000000
      · exact .inr ⟨hr, h, fun e => by rw [e, hq] at h; cases h⟩
      · rw [lows_get hlow r (by omega)] at h; cases h
  have hlow' : lows ((q, g x) :: renHeap (foc c i q) l) := ⟨hq2, by
    have : ∀ l : Heap, lows l → lows (renHeap (foc c i q) l) := fun l => by
      induction l with
      | nil => exact fun h => h
      | cons y l ih => obtain ⟨s, y⟩ := y; exact fun h => ⟨h.1, ih h.2⟩
    exact this l hlow⟩
  have hgx : ∀ j, hget (dynH c ((subs g L).set i none) ((q, g x) :: renHeap (foc c i q) l)) (sn c j) = if i = j then none else (L[j]?).map g := fun j => by
    rw [hget_dyn_sn j hlow', subs_hole]
  have hgl : ∀ r, r < 1000000 → hget (dynH c ((subs g L).set i none) ((q, g x) :: renHeap (foc c i q) l)) r = if q = r then some (g x) else (hget l r).map (Row.ren (foc c i q)) := fun r hr => by
    rw [hget_dyn hr]; simp only [hget, hget_renHeap]
  refine Sub.ren (ρ := foc c i q) ⟨fun t => eget_renEnv _ _ t, fun r y hy => ?_, fun s y hy => ?_, fun r s y z hy hz hrs => ?_, fun r y hy hr => ?_, fun r y hy hr => ?_, by rw [hd]; rfl, rfl⟩
  · rcases hcase r y hy with ⟨j, rfl, h2⟩ | ⟨h1, h2, h3⟩
    · by_cases hij : i = j
      · subst hij
        rw [foc_at, hgl q hq2, if_pos rfl]
        rw [hx] at h2; simp only [Option.map_some, Option.some.injEq] at h2; subst h2
        rw [NestG.ren]
      · have e1 : foc c i q (sn c j) = sn c j := by unfold foc; rw [if_neg (fun e => hij (sn_inj e).symm)]
        rw [e1, hgx, if_neg hij, h2]
        cases hj : L[j]? with
        | none => rw [hj] at h2; cases h2
        | some z => rw [hj] at h2; simp only [Option.map_some, Option.some.injEq] at h2; subst h2; rw [NestG.ren]
    · rw [foc_low h1, hgl r h1, if_neg (Ne.symm h3), h2]; rfl
  · rcases hget_dyn_some hy with ⟨j, rfl, h2⟩ | h
    · rw [subs_hole] at h2
      split at h2
      · cases h2
      · rename_i hij
        exact ⟨sn c j, y, (hsn j).trans h2, by unfold foc; rw [if_neg (fun e => hij (sn_inj e).symm)]⟩
    · simp only [hget, hget_renHeap] at h
      split at h
      · rename_i e; subst e
        exact ⟨sn c i, g x, by rw [hsn, hx]; rfl, foc_at.symm⟩
      · simp only [Option.map_eq_some_iff] at h
        obtain ⟨y', h1, _⟩ := h
        have hr : s < 1000000 := Nat.lt_of_not_le fun hge => by rw [lows_get hlow s hge] at h1; cases h1
        exact ⟨s, y', (hlo s hr).trans h1, (foc_low hr).symm⟩
  · rcases hcase r y hy with ⟨j, rfl, h2⟩ | ⟨h1, h2, h3⟩ <;> rcases hcase s z hz with ⟨j', rfl, h2'⟩ | ⟨h1', h2', h3'⟩
    · unfold foc at hrs
      split at hrs <;> split at hrs
      · rename_i e e'; rw [e, e']
      · unfold sn at hrs; omega
      · unfold sn at hrs; omega
      · exact hrs
    · rw [foc_low h1'] at hrs
      unfold foc at hrs
      split at hrs
      · exact absurd hrs.symm h3'
      · unfold sn at hrs; omega
    · rw [foc_low h1] at hrs
      unfold foc at hrs
      split at hrs
      · exact absurd hrs h3
      · unfold sn at hrs; omega
    · rw [foc_low h1, foc_low h1'] at hrs; exact hrs
  · exact foc_low (by omega)
  · unfold foc
    split
    · exact hq1
    · exact hr
theorem hget_hdrop1 (q : Nat) (l : Heap) (s : Nat) : hget (hdrop [q] l) s = if s = q then none else hget l s := by
  rw [hget_hdrop]; simp
theorem Sub.unfocus {α : Type} (c i q : Nat) {F : Nat → α → PV} {g : α → Row} [NestF F] [NestG g] {L : List α} (x : α) {l l' : Heap} {e' : List (Nat × PV)} (hi : i < L.length) (hs : σ.heap = dynH c ((subs g L).set i none) l) (hlow : lows l) (hq : hget l q = some (g x)) (hq1 : 1000 ≤ q) (hq2 : q < 1000000)
    (hl : renHeap (unf c i q) (hdrop [q] l) = l') (he : renEnv (unf c i q) σ.env = e') (hd : σ.dfr = []) : Sub G N σ ⟨e', dynH c (subs g (L.set i x)) l', σ.dfr, σ.gh⟩ := by
  subst hl he
  have hsn : ∀ j, hget σ.heap (sn c j) = if i = j then none else (L[j]?).map g := fun j => by rw [hs, hget_dyn_sn j hlow, subs_hole]
  have hlo : ∀ r, r < 1000000 → hget σ.heap r = hget l r := fun r h => by rw [hs, hget_dyn h]
  have hcase : ∀ r x', hget σ.heap r = some x' → (∃ j, r = sn c j ∧ i ≠ j ∧ (L[j]?).map g = some x') ∨ (r < 1000000 ∧ hget l r = some x') := fun r x' h => by
    rw [hs] at h
    rcases hget_dyn_some h with ⟨j, h1, h2⟩ | h
    · rw [subs_hole] at h2
      split at h2
      · cases h2
      · rename_i hij; exact .inl ⟨j, h1, hij, h2⟩
    · by_cases hr : r < 1000000
      · exact .inr ⟨hr, h⟩
      · rw [lows_get hlow r (by omega)] at h; cases h
  have hget' : ∀ s, hget (renHeap (unf c i q) (hdrop [q] l)) s = if s = q then none else (hget l s).map (Row.ren (unf c i q)) := fun s => by
    rw [hget_renHeap, hget_hdrop1]; split <;> rfl
  have hlow' : lows (renHeap (unf c i q) (hdrop [q] l)) := by
    have h1 : ∀ l : Heap, lows l → lows (renHeap (unf c i q) l) := fun l => by
      induction l with
      | nil => exact fun h => h
      | cons y l ih => obtain ⟨s, y⟩ := y; exact fun h => ⟨h.1, ih h.2⟩
    have h2 : ∀ l : Heap, lows l → lows (hdrop [q] l) := fun l => by
      induction l with
      | nil => exact fun h => h
      | cons y l ih =>
        obtain ⟨s, y⟩ := y
        intro h
        simp only [hdrop]
        split
        · exact ih h.2
        · exact ⟨h.1, ih h.2⟩
    exact h1 _ (h2 l hlow)
  have hgx : ∀ j, hget (dynH c (subs g (L.set i x)) (renHeap (unf c i q) (hdrop [q] l))) (sn c j) = if i = j then some (g x) else (L[j]?).map g := fun j => by
    rw [hget_dyn_sn j hlow', subs_get, List.getElem?_set]
    split
    · rename_i e; subst e; simp [hi]
    · rfl
  refine Sub.ren (ρ := unf c i q) ⟨fun t => eget_renEnv _ _ t, fun r y hy => ?_, fun s y hy => ?_, fun r s y z hy hz hrs => ?_, fun r y hy hr => ?_, fun r y hy hr => ?_, by rw [hd]; rfl, rfl⟩
  · rcases hcase r y hy with ⟨j, rfl, hij, h2⟩ | ⟨h1, h2⟩
    · rw [unf_ne (by unfold sn; omega), hgx, if_neg hij, h2]
      cases hj : L[j]? with
      | none => rw [hj] at h2; cases h2
      | some z => rw [hj] at h2; simp only [Option.map_some, Option.some.injEq] at h2; subst h2; rw [NestG.ren]
    · by_cases hrq : r = q
      · subst hrq
        rw [unf_at, hgx, if_pos rfl]
        rw [hq] at h2; cases h2
        rw [NestG.ren]
      · rw [unf_ne hrq, hget_dyn h1, hget', if_neg hrq, h2]; rfl
  · rcases hget_dyn_some hy with ⟨j, rfl, h2⟩ | h
    · rw [subs_get, List.getElem?_set] at h2
      by_cases hij : i = j
      · subst hij
        exact ⟨q, g x, (hlo q hq2).trans hq, unf_at.symm⟩
      · rw [if_neg hij] at h2
        exact ⟨sn c j, y, by rw [hsn, if_neg hij]; exact h2, by rw [unf_ne (by unfold sn; omega)]⟩
    · rw [hget'] at h
      split at h
      · cases h
      · rename_i hsq
        simp only [Option.map_eq_some_iff] at h
        obtain ⟨y', h1, _⟩ := h
        have hr : s < 1000000 := Nat.lt_of_not_le fun hge => by rw [lows_get hlow s hge] at h1; cases h1
        exact ⟨s, y', (hlo s hr).trans h1, (unf_ne hsq).symm⟩
  · rcases hcase r y hy with ⟨j, rfl, hij, h2⟩ | ⟨h1, h2⟩ <;> rcases hcase s z hz with ⟨j', rfl, hij', h2'⟩ | ⟨h1', h2'⟩
    · rw [unf_ne (by unfold sn; omega), unf_ne (by unfold sn; omega)] at hrs; exact hrs
    · rw [unf_ne (by unfold sn; omega)] at hrs
      unfold unf at hrs
      split at hrs
      · exact absurd (sn_inj hrs).symm hij
      · exact hrs
    · rw [unf_ne (s := sn c j') (by unfold sn; omega)] at hrs
      unfold unf at hrs
      split at hrs
      · exact absurd (sn_inj hrs) hij'
      · exact hrs
    · unfold unf at hrs
      split at hrs <;> split at hrs
      · rename_i e e'; rw [e, e']
      · unfold sn at hrs; omega
      · unfold sn at hrs; omega
      · exact hrs
  · exact unf_ne (by omega)
  · unfold unf
    split
    · unfold sn; omega
    · exact hr
theorem Sub.voidEl (s j e k r : Nat) {x : Row} {p p' : PV} (hs : hget σ.heap s = some x) (hk1 : 1 ≤ x.k) (hels : x.els[j]? = some p) (hpb : isByte p = false) (hr0 : hget σ.heap r = none) (hr : 1000 ≤ r)
    (hval : ∀ (w : World) (X : Nat → Prop) (φ : Nm) (H : Heap) (v : Value), hget H r = some { e, k, els := [] } → φ r = none → RepV w X φ H v p → RepV w X φ H v p') :
    Sub G N σ { env := σ.env, heap := hput (hput σ.heap s { x with els := x.els.set j p' }) r { e, k, els := [] }, dfr := σ.dfr, gh := σ.gh } := by
  intro P B a w φ hrep
  have hsr : s ≠ r := fun h => by subst h; rw [hs] at hr0; cases hr0
  have hgetr : hget (hput (hput σ.heap s { x with els := x.els.set j p' }) r { e, k, els := [] }) r = some { e, k, els := [] } := by rw [hget_hput]; simp
  have hgets : hget (hput (hput σ.heap s { x with els := x.els.set j p' }) r { e, k, els := [] }) s = some { x with els := x.els.set j p' } := by
    rw [hget_hput, if_neg (Ne.symm hsr), hget_hput]; simp
  have hgeto : ∀ t, t ≠ r → t ≠ s → hget (hput (hput σ.heap s { x with els := x.els.set j p' }) r { e, k, els := [] }) t = hget σ.heap t := fun t h1 h2 => by
    rw [hget_hput, if_neg (Ne.symm h1), hget_hput, if_neg (Ne.symm h2)]
  obtain ⟨H2, hH2⟩ : ∃ H2, H2 = hput (hput σ.heap s { x with els := x.els.set j p' }) r { e, k, els := [] } := ⟨_, rfl⟩
  rw [← hH2] at hgetr hgets hgeto ⊢
  have hback : ∀ t y, t ≠ r → hget H2 t = some y → ∃ y', hget σ.heap t = some y' ∧ y.k = y'.k ∧ y.e = y'.e ∧ y.els.length = y'.els.length := fun t y h1 h => by
    by_cases h2 : t = s
    · subst h2; rw [hgets] at h; cases h; exact ⟨x, hs, rfl, rfl, by simp⟩
    · rw [hgeto t h1 h2] at h; exact ⟨y, h, rfl, rfl, rfl⟩
  have hrow : ∀ b, rowB (upd φ r none) H2 b → rowB φ σ.heap b := by
    rintro b ⟨t, y, h1, h2⟩
    by_cases ht : t = r
    · subst ht; simp [upd] at h2
    · simp only [upd, ht, if_false] at h2
      obtain ⟨y', h3, _⟩ := hback t y ht h1
      exact ⟨t, y', h3, h2⟩
  have hown : ∀ b, own (upd φ r none) H2 b → own φ σ.heap b := fun b h => h.imp (hrow b) id
  have hext : Ext w B.X φ σ.heap w (upd φ r none) H2 := by
    refine ⟨fun t y h => ?_, fun b h => ⟨h.1, h.2.1, fun ho => h.2.2 (hown b ho)⟩, fun b h => ⟨h.1, fun ho => h.2 (hown b ho)⟩, fun _ _ => rfl, fun t y b _ _ c e f hh => ⟨c, e, f, hh, rfl⟩⟩
    have htr : t ≠ r := fun e => by subst e; rw [hr0] at h; cases h
    by_cases ht : t = s
    · subst ht; rw [hs] at h; cases h
      exact ⟨_, hgets, rfl, fun _ => by simp, by simp [upd, htr]⟩
    · exact ⟨y, (hgeto t htr ht).trans h, rfl, fun _ => rfl, by simp [upd, htr]⟩
  have hval' : ∀ v, RepV w B.X φ σ.heap v p → RepV w B.X (upd φ r none) H2 v p' := fun v hv => hval _ _ _ _ v hgetr (by simp [upd]) (hv.ext hext)
  refine ⟨upd φ r none, Rep.of_sit ⟨⟨fun t y b ht hb => ?_, fun t y ht hb => ?_, fun t u y z b ht hu hb hb' => ?_, fun b hT => ⟨(hrep.heap.far b hT).1, (hrep.heap.far b hT).2.1, fun h => (hrep.heap.far b hT).2.2 (hrow b h)⟩⟩, hrep.keeps, fun t y b ht hb => ?_, fun t y ht hp' => ?_, fun t y b ht hp' hb => ?_, ?_, hrep.tnew, J_step (w := w) (φ := φ) (H := σ.heap) hrep.inv rfl rfl rfl rfl (Nat.le_refl _) (fun _ _ _ => rfl) (fun b hb => .inl (hrow b hb))⟩ hrep.size (fun t => (hrep.env t).ext hext) (hrep.dfr.ext hext)⟩
  · have htr : t ≠ r := fun e => by subst e; simp [upd] at hb
    simp only [upd, htr, if_false] at hb
    by_cases h : t = s
    · subst h; rw [hgets] at ht; cases ht
      refine (hrep.heap.rows t x b hs hb).turn rfl rfl (by simp) (fun _ _ h => h) (hrep.heap.rows t x b hs hb).free (fun m hm hm' v hv => ?_) fun z hz => hz.set (hz.past hels hpb) p'
      by_cases hjm : j = m
      · subst hjm
        have e1 : x.els[j] = p := (List.getElem?_eq_some_iff.1 hels).2
        rw [e1] at hv
        simpa using hval' v hv
      · have e1 : (x.els.set j p')[m] = x.els[m] := List.getElem_set_ne hjm _
        rw [e1]; exact hv.ext hext
    · rw [hgeto t htr h] at ht
      exact (hrep.heap.rows t y b ht hb).ext hext rfl
  · by_cases htr : t = r
    · subst htr; rw [hgetr] at ht; cases ht; rfl
    · simp only [upd, htr, if_false] at hb
      obtain ⟨y', h1, _, _, h4⟩ := hback t y htr ht
      have := hrep.heap.void t y' h1 hb
      rw [this] at h4
      exact List.eq_nil_of_length_eq_zero h4
  · have htr : t ≠ r := fun e => by subst e; simp [upd] at hb
    have hur : u ≠ r := fun e => by subst e; simp [upd] at hb'
    simp only [upd, htr, hur, if_false] at hb hb'
    obtain ⟨y', h1, _⟩ := hback t y htr ht
    obtain ⟨z', h2, _⟩ := hback u z hur hu
    exact hrep.heap.inj t u y' z' b h1 h2 hb hb'
  · have htr : t ≠ r := fun e => by subst e; simp [upd] at hb
    simp only [upd, htr, if_false] at hb
    obtain ⟨y', h1, _⟩ := hback t y htr ht
    exact hrep.new t y' b h1 hb
  · have hlt : t < 1000 := by simpa [pinned] using hp'
    have htr : t ≠ r := by omega
    simp only [upd, htr, if_false]
    obtain ⟨y', h1, _⟩ := hback t y htr ht
    exact hrep.pins t y' h1 hp'
  · have hlt : t < 1000 := by simpa [pinned] using hp'
    have htr : t ≠ r := by omega
    simp only [upd, htr, if_false] at hb
    obtain ⟨y', h1, _⟩ := hback t y htr ht
    exact hrep.psz t y' b h1 hp' hb
  · exact hrep.glob.ext hext (fun g x hm => by obtain ⟨_, _, _, _, _, h2, _⟩ := hrep.glob g x hm; exact fun ho => h2 (hown g ho))
theorem void_agg {w : World} {X : Nat → Prop} {φ : Nm} {H : Heap} {v : Value} {p : PV} {cs : List PV} {r e k i : Nat} (hp : isAggPV p = true) (hcs : pvCells p = some cs) (hi : cs[i]? = some (.d .nilslice)) (hk : 1 ≤ k) (hg : hget H r = some { e, k, els := [] }) (hφ : φ r = none) (hv : RepV w X φ H v p) : RepV w X φ H v (.agg (cs.set i (.slc r 0 0))) := by
  obtain ⟨vs, rfl⟩ := RepV.agg_of hp hv
  have h1 := pvCells_ok hcs hv
  have hil : i < cs.length := (List.getElem?_eq_some_iff.1 hi).1
  have h2 : RepV w X φ H (vs.getD i undef) (.slc r 0 0) := by
    have h3 := h1.rep i hil
    rw [(List.getElem?_eq_some_iff.1 hi).2] at h3
    have h4 := repD_nilslice (repV_d h3)
    simp only [Value.cells] at h4
    rw [h4]
    exact .slc0 hg hφ hk (by simp)
  have h5 := h1.set i h2 (by have := h1.flat i hil; simpa only [Value.cells] using this)
  have h6 : (Value.agg vs).cells.setIfInBounds i (vs.getD i undef) = vs := by
    apply Array.ext
    · simp [Value.cells]
    · intro j h1 h2
      by_cases hji : i = j
      · subst hji; simp [Value.cells, Array.getD, h2]
      · exact Array.getElem_setIfInBounds_ne h2 hji
  rw [h6] at h5
  exact .agg h5.size h5.rep h5.flat
theorem void_slc {w : World} {X : Nat → Prop} {φ : Nm} {H : Heap} {v : Value} {r e k : Nat} (hk : 1 ≤ k) (hg : hget H r = some { e, k, els := [] }) (hφ : φ r = none) (hv : RepV w X φ H v (.d .nilslice)) : RepV w X φ H v (.slc r 0 0) := by
  have h4 := repD_nilslice (repV_d hv)
  rw [h4]
  exact .slc0 hg hφ hk (by simp)
theorem Sub.push {α : Type} (c R e k : Nat) {F : Nat → α → PV} {g : α → Row} {L : List α} (x : α) {l l' : Heap} {e1 k1 : Nat} {p : PV} (hs : σ.heap = dynH c (subs g L) l) (hlow : lows l) (hR : hget l R = some ⟨e1, k1, nelF c F L ++ [p]⟩) (hk1 : 1 ≤ k1) (hpb : isByte p = false)
    (hg : g x = ⟨e, k, []⟩) (hval : ∀ (w : World) (X : Nat → Prop) (φ : Nm) (H : Heap) (v : Value), hget H (sn c L.length) = some { e, k, els := [] } → φ (sn c L.length) = none → RepV w X φ H v p → RepV w X φ H v (F (sn c L.length) x))
    (hl : hput l R ⟨e1, k1, nelF c F (L ++ [x])⟩ = l') : Sub G N σ ⟨σ.env, dynH c (subs g (L ++ [x])) l', σ.dfr, σ.gh⟩ := by
  subst hl
  have hRl : R < 1000000 := Nat.lt_of_not_le fun h => by rw [lows_get hlow R h] at hR; cases hR
  have hR' : hget σ.heap R = some ⟨e1, k1, nelF c F L ++ [p]⟩ := by rw [hs, hget_dyn hRl]; exact hR
  have hn : hget σ.heap (sn c L.length) = none := by rw [hs, hget_dyn_sn _ hlow, subs_get]; simp
  refine (Sub.voidEl R L.length e k (sn c L.length) hR' hk1 (p := p) (by simp [List.getElem?_append, nelF_length]) hpb hn (by unfold sn; omega) hval).trans ?_
  intro P B a w φ hr
  refine ⟨φ, hr.same ?_ rfl⟩
  funext key
  cases key with
  | t t => rfl
  | h s =>
    simp only [St.look, Cont.r.injEq]
    have e0 : (nelF c F L ++ [p]).set L.length (F (sn c L.length) x) = nelF c F (L ++ [x]) := by
      have h1 : (nelF c F L ++ [p]).set L.length (F (sn c L.length) x) = nelF c F L ++ [F (sn c L.length) x] := by
        rw [List.set_append]; simp [nelF_length]
      rw [h1]; exact nels_push _ L x
    have hlow' : lows (hput l R ⟨e1, k1, nelF c F (L ++ [x])⟩) := by
      have : ∀ l : Heap, lows l → lows (hput l R ⟨e1, k1, nelF c F (L ++ [x])⟩) := fun l => by
        induction l with
        | nil => exact fun _ => ⟨hRl, trivial⟩
        | cons y l ih =>
          obtain ⟨s, y⟩ := y
          intro h
          simp only [hput]
          split
          · exact ⟨h.1, h.2⟩
          · exact ⟨h.1, ih h.2⟩
      exact this l hlow
    rw [hget_hput, hget_hput, e0]
    by_cases h1 : sn c L.length = s
    · subst h1
      rw [if_pos rfl, hget_dyn_sn _ hlow', subs_get]
      simp [hg]
    · rw [if_neg h1]
      by_cases h2 : R = s
      · subst h2
        rw [if_pos rfl, hget_dyn hRl, hget_hput, if_pos rfl]
      · rw [if_neg h2, hs]
        by_cases hlt : s < 1000000
        · rw [hget_dyn hlt, hget_dyn hlt, hget_hput, if_neg h2]
        · have hl1 := lows_get hlow s (by omega)
          have hl2 := lows_get hlow' s (by omega)
          have hd : ∀ (M : List (Option Row)) (l : Heap), hget l s = none → hget (dynH c M l) s = hget (dynGo c 0 M) s := fun M l hl => by
            simp only [dynH, hget_append, hl]; cases hget (dynGo c 0 M) s <;> rfl
          rw [hd _ _ hl1, hd _ _ hl2]
          by_cases hex : ∃ j, s = sn c j
          · obtain ⟨j, rfl⟩ := hex
            have hj : j ≠ L.length := fun e => h1 (by rw [e])
            simp only [hget_dynGo, Nat.zero_le, if_true, Nat.sub_zero, subs_get]
            rw [List.getElem?_append]
            by_cases hjl : j < L.length
            · rw [if_pos hjl]
            · rw [if_neg hjl, List.getElem?_eq_none (by omega), List.getElem?_eq_none (by simp; omega)]
          · have hno : ∀ (M : List (Option Row)), hget (dynGo c 0 M) s = none := fun M => by
              cases hh : hget (dynGo c 0 M) s with
              | none => rfl
              | some y => obtain ⟨j, h3, _⟩ := hget_dynGo_name M 0 hh; exact absurd ⟨j, h3⟩ hex
            rw [hno, hno]
end
class NestP {α : Type} (F : Nat → α → PV) (g : α → Row) (pd : α → PD) : Prop where
  frz : ∀ H r x, hget H r = some (g x) → frz H (F r x) = some (pd x)
def lowEnv : List (Nat × PV) → Prop
  | [] => True
  | (_, v) :: l => ((rowsOf v).all fun r => decide (r < 1000000)) = true ∧ lowEnv l
theorem lowEnv_get : ∀ {l : List (Nat × PV)}, lowEnv l → ∀ t, ∀ r ∈ rowsOf (eget l t), r < 1000000
  | [], _, t, r, h => by simp [eget, rowsOf] at h
  | (s, v) :: l, h, t, r, hr => by
    simp only [eget] at hr
    split at hr
    · have := List.all_eq_true.1 h.1 r hr
      simpa using this
    · exact lowEnv_get h.2 t r hr
def lowRows (R : Nat) : Heap → Prop
  | [] => True
  | (s, x) :: l => (s = R ∨ ((rowsOfL x.els).all fun r => decide (r < 1000000)) = true) ∧ lowRows R l
theorem lowRows_get {R : Nat} : ∀ {l : Heap}, lowRows R l → ∀ s y, hget l s = some y → s ≠ R → ∀ r ∈ rowsOfL y.els, r < 1000000
  | [], _, s, y, h, _, _, _ => by simp [hget] at h
  | (t, x) :: l, h, s, y, hs, hne, r, hr => by
    simp only [hget] at hs
    split at hs
    · rename_i e; subst e; cases hs
      rcases h.1 with h1 | h1
      · exact absurd h1 hne
      · simpa using List.all_eq_true.1 h1 r hr
    · exact lowRows_get h.2 s y hs hne r hr
section
variable {G : List (Nat × PD)} {N : Nat} {σ : St}
theorem Sub.unnest {α : Type} (c R : Nat) {F : Nat → α → PV} {g : α → Row} (pd : α → PD) [NestF F] [NestG g] [NestP F g pd] {L : List α} {l l' : Heap} {e k : Nat} (hs : σ.heap = dynH c (subs g L) l) (hlow : lows l) (hR : hget l R = some ⟨e, k, nelF c F L⟩)
    (henv : lowEnv σ.env) (hrows : lowRows R l) (hd : σ.dfr = []) (hgh : σ.gh = none) (hl : hput l R ⟨e, k, dl (lenc pd L)⟩ = l') : Sub G N σ ⟨σ.env, l', σ.dfr, σ.gh⟩ := by
  subst hl
  intro P B a w φ hr
  have hRl : R < 1000000 := Nat.lt_of_not_le fun h => by rw [lows_get hlow R h] at hR; cases hR
  have hsn : ∀ j, hget σ.heap (sn c j) = (L[j]?).map g := fun j => by rw [hs, hget_dyn_sn j hlow, subs_get]
  have hlo : ∀ r, r < 1000000 → hget σ.heap r = hget l r := fun r h => by rw [hs, hget_dyn h]
  have hsmall : ∀ s y, hget l s = some y → s < 1000000 := fun s y h => Nat.lt_of_not_le fun h2 => by rw [lows_get hlow s h2] at h; cases h
  have hback : ∀ s y, hget (hput l R ⟨e, k, dl (lenc pd L)⟩) s = some y → ∃ y', hget σ.heap s = some y' ∧ y.k = y'.k ∧ y.e = y'.e ∧ y.els.length = y'.els.length ∧ s < 1000000 := fun s y h => by
    rw [hget_hput] at h
    split at h
    · rename_i e1; subst e1; cases h
      exact ⟨_, (hlo R hRl).trans hR, rfl, rfl, by simp [dl, lenc, nelF_length], hRl⟩
    · exact ⟨y, (hlo s (hsmall s y h)).trans h, rfl, rfl, rfl, hsmall s y h⟩
  have hrow : ∀ b, rowB φ (hput l R ⟨e, k, dl (lenc pd L)⟩) b → rowB φ σ.heap b := by
    rintro b ⟨s, y, h1, h2⟩
    obtain ⟨y', h3, _⟩ := hback s y h1
    exact ⟨s, y', h3, h2⟩
  have hown : ∀ b, own φ (hput l R ⟨e, k, dl (lenc pd L)⟩) b → own φ σ.heap b := fun b h => h.imp (hrow b) id
  have hok : ∀ b, okd w B.X φ σ.heap b → okd w B.X φ (hput l R ⟨e, k, dl (lenc pd L)⟩) b := fun b h => ⟨h.1, h.2.1, fun ho => h.2.2 (hown b ho)⟩
  have hext : ExtU ((List.range L.length).map (sn c)) w B.X φ σ.heap w φ (hput l R ⟨e, k, dl (lenc pd L)⟩) := by
    refine ⟨fun s x hns h => ?_, hok, fun b h => ⟨h.1, fun ho => h.2 (hown b ho)⟩, fun _ _ => rfl, fun s x b _ h1 h2 c' e' f' hh => ⟨c', e', f', hh, rfl⟩⟩
    have h0 := h
    rw [hs] at h
    rcases hget_dyn_some h with ⟨j, rfl, h2⟩ | h
    · rw [subs_get] at h2
      have hj : j < L.length := by
        cases hj : L[j]? with
        | none => rw [hj] at h2; cases h2
        | some z => exact (List.getElem?_eq_some_iff.1 hj).1
      exact absurd (List.mem_map.2 ⟨j, by simpa using hj, rfl⟩) hns
    · by_cases hsR : R = s
      · subst hsR; rw [hR] at h; cases h
        exact ⟨⟨e, k, dl (lenc pd L)⟩, by rw [hget_hput, if_pos rfl], rfl, fun _ => by simp [dl, lenc, nelF_length], rfl⟩
      · exact ⟨x, by rw [hget_hput, if_neg hsR]; exact h, rfl, fun _ => rfl, rfl⟩
  have hlowval : ∀ {v p}, RepV w B.X φ σ.heap v p → (∀ r ∈ rowsOf p, r < 1000000) → RepV w B.X φ (hput l R ⟨e, k, dl (lenc pd L)⟩) v p := fun {v p} hv hp => hv.extU hext fun r hr hm => by
    obtain ⟨j, _, rfl⟩ := List.mem_map.1 hm
    have := hp _ hr
    unfold sn at this; omega
  have hsub : ∀ j x b, hget σ.heap (sn c j) = some x → φ (sn c j) = some b → okd w B.X φ (hput l R ⟨e, k, dl (lenc pd L)⟩) b := fun j x b hx hb => ⟨hr.heap.lt hx hb, (hr.heap.rows _ x b hx hb).free, fun ho => by
    rcases ho with ⟨s, y, hy, hs'⟩ | hT
    · obtain ⟨y', h3, _, _, _, h4⟩ := hback s y hy
      have e1 := hr.heap.inj s (sn c j) y' x b h3 hx hs' hb
      subst e1; unfold sn at h4; omega
    · exact (hr.heap.far b hT).2.2 ⟨_, x, hx, hb⟩⟩
  refine ⟨φ, Rep.of_sit ⟨⟨fun s y b hy hb => ?_, fun s y hy hb => ?_, fun s t y z b hy hz hb hb' => ?_, fun b hT => ⟨(hr.heap.far b hT).1, (hr.heap.far b hT).2.1, fun ho => (hr.heap.far b hT).2.2 (hrow b ho)⟩⟩, hr.keeps, fun s y b hy hb => ?_, fun s y hy hp => ?_, fun s y b hy hp hb => ?_, ?_, hr.tnew, ?_⟩ hr.size (fun t => hlowval (hr.env t) (lowEnv_get henv t)) ?_⟩
  · rw [hget_hput] at hy
    by_cases hsR : R = s
    · subst hsR
      rw [if_pos rfl] at hy; cases hy
      refine (hr.heap.rows R _ b ((hlo R hRl).trans hR) hb).turn rfl rfl (by simp [dl, lenc, nelF_length]) (fun _ _ h => h) (hr.heap.rows R _ b ((hlo R hRl).trans hR) hb).free (fun i hi hi' v hv => ?_) fun z hz => ?_
      · have hi2 : i < L.length := by simpa [nelF_length] using hi
        have e1 : (nelF c F L)[i] = F (sn c i) L[i] := by
          have := nelF_get c F L i
          rw [List.getElem?_eq_getElem hi, List.getElem?_eq_getElem hi2] at this
          simpa using this
        have e2 : (dl (lenc pd L))[i] = .d (pd L[i]) := by simp [dl, lenc]
        rw [e1] at hv
        rw [e2]
        have hgi : hget σ.heap (sn c i) = some (g L[i]) := by rw [hsn, List.getElem?_eq_getElem hi2]; rfl
        refine .d (frz_in hr.heap hok hv (fun r hr' x b hx hb => ?_) (NestP.frz σ.heap (sn c i) L[i] hgi))
        have := NestF.rows _ _ _ hr'
        subst this
        exact hsub i x b hx hb
      · have := hz.zero_of fun p hp => by
          obtain ⟨i, hi, rfl⟩ := List.getElem_of_mem hp
          have hi2 : i < L.length := by simpa [nelF_length] using hi
          have := nelF_get c F L i
          rw [List.getElem?_eq_getElem hi, List.getElem?_eq_getElem hi2] at this
          simp only [Option.map_some, Option.some.injEq] at this
          rw [this]; exact NestF.byte _ _
        subst this; exact .zero _
    · rw [if_neg hsR] at hy
      have hy' := (hlo s (hsmall s y hy)).trans hy
      refine (hr.heap.rows s y b hy' hb).turn rfl rfl rfl (fun _ _ h => h) (hr.heap.rows s y b hy' hb).free (fun i hi _ v hv => hlowval hv fun r hr' => lowRows_get hrows s y hy (Ne.symm hsR) r (rowsOfL_mem hi hr')) fun _ h => h
  · obtain ⟨y', h1, _, _, h4, _⟩ := hback s y hy
    have := hr.heap.void s y' h1 hb
    rw [this] at h4
    exact List.eq_nil_of_length_eq_zero h4
  · obtain ⟨y', h1, _⟩ := hback s y hy
    obtain ⟨z', h2, _⟩ := hback t z hz
    exact hr.heap.inj s t y' z' b h1 h2 hb hb'
  · obtain ⟨y', h1, _⟩ := hback s y hy
    exact hr.new s y' b h1 hb
  · obtain ⟨y', h1, _⟩ := hback s y hy
    exact hr.pins s y' h1 hp
  · obtain ⟨y', h1, _⟩ := hback s y hy
    exact hr.psz s y' b h1 hp hb
  · intro n y hm
    obtain ⟨c', e', f', v, h1, h2, h3, h4, h5, h6⟩ := hr.glob n y hm
    exact ⟨c', e', f', v, h1, fun ho => h2 (hown n ho), h3.mono hok (fun _ _ => rfl), h4, h5, h6⟩
  · rw [hgh]
    have := hr.inv
    rw [hgh] at this
    exact this
  · have := hr.dfr
    rw [hd] at this ⊢
    refine this.map (f := id) (fun D hD => ⟨hok D hD, rfl⟩) (fun p hp => by simp at hp)
end
theorem renOf_high {gl : List (Nat × Nat)} (h : (gl.all fun p => decide (p.1 < 1000000)) = true) {s : Nat} (hs : 1000000 ≤ s) : renOf gl s = s := by
  induction gl with
  | nil => rfl
  | cons p l ih =>
    obtain ⟨a, b⟩ := p
    simp only [List.all_cons, Bool.and_eq_true, decide_eq_true_eq] at h
    simp only [renOf]
    rw [if_neg (by omega)]
    exact ih h.2
theorem renOf_low {gl : List (Nat × Nat)} (h : (gl.all fun p => decide (p.2 < 1000000)) = true) {s : Nat} (hs : s < 1000000) : renOf gl s < 1000000 := by
  induction gl with
  | nil => exact hs
  | cons p l ih =>
    obtain ⟨a, b⟩ := p
    simp only [List.all_cons, Bool.and_eq_true, decide_eq_true_eq] at h
    simp only [renOf]
    split
    · exact h.1
    · exact ih h.2
theorem nelF_renOf {α : Type} {c : Nat} {F : Nat → α → PV} [NestF F] {L : List α} {gl : List (Nat × Nat)} (h : (gl.all fun p => decide (p.1 < 1000000)) = true) : renL (renOf gl) (nelF c F L) = nelF c F L := by
  rw [renL_map]
  apply List.ext_getElem?
  intro i
  rw [List.getElem?_map, nelF_get]
  cases L[i]? with
  | none => rfl
  | some x => simp only [Option.map_some, NestF.ren]; rw [renOf_high h (by unfold sn; omega)]
theorem nelF_clean {α : Type} {c : Nat} {F : Nat → α → PV} [NestF F] {L : List α} : cleanL (nelF c F L) := by
  have : ∀ l : List PV, (∀ (i : Nat) (p : PV), l[i]? = some p → clean p) → cleanL l := fun l => by
    induction l with
    | nil => exact fun _ => trivial
    | cons p l ih => exact fun h => ⟨h 0 p rfl, ih fun i q hq => h (i + 1) q (by simpa using hq)⟩
  refine this _ fun i p hp => ?_
  rw [nelF_get, Option.map_eq_some_iff] at hp
  obtain ⟨x, _, rfl⟩ := hp
  exact NestF.clean _ _
def lowOut (g : Nat → Nat) (H : Heap) : Heap → Prop
  | [] => True
  | (s, x) :: l => ((H.any fun y => g y.1 == s) = true ∨ ((rowsOfL x.els).all fun r => decide (r < 1000000)) = true) ∧ lowOut g H l
theorem lowOut_get {g : Nat → Nat} {H : Heap} : ∀ {l : Heap}, lowOut g H l → ∀ t y, hget l t = some y → (∀ r x, hget H r = some x → g r ≠ t) → ∀ s ∈ rowsOfL y.els, s < 1000000
  | [], _, t, y, h, _, _, _ => by simp [hget] at h
  | (s, x) :: l, h, t, y, hy, hn, r, hr => by
    simp only [hget] at hy
    split at hy
    · rename_i e; subst e; cases hy
      rcases h.1 with h1 | h1
      · obtain ⟨r', x', h2, h3⟩ := hget_of_any h1
        exact absurd h3 (hn r' x' h2)
      · simpa using List.all_eq_true.1 h1 r hr
    · exact lowOut_get h.2 t y hy hn r hr
section
variable {P : Program} {G : List (Nat × PD)} {ro : Option Nat} {N : Nat} {ops : Array Oper} {σ σ' : St} {o : Oper} {rest : List Oper}
theorem OpT.relook {K : St → Prop} (h : OpT P G ro N o σ (fun τ => τ.look = σ'.look ∧ τ.rest = σ'.rest)) (hK : K σ') : OpT P G ro N o σ K :=
  fun B hro a w φ hr next Q hn => h B hro a w φ hr next Q fun τ a' w' φ' h1 h2 => hn σ' a' w' φ' hK (h2.same h1.1 h1.2)
theorem OpT.callD {α : Type} {nc : Nat} {g : α → Row} [NestG g] {L L' : List α} {c : Call} {f : FuncId} {xo : Operand} {caps args : List PV} {res : PV} {lH lH' lc : Heap} {K : St → Prop} (gl : List (Nat × Nat)) (gs : List Nat)
    (hf : ObjFn P G f args (dynH nc (subs g L) lH) res (dynH nc (subs g L') lH')) (hs : σ.heap = dynH nc (subs g L) lc) (hlH : lows lH) (hlH' : lows lH') (hlc : lows lc)
    (hg1 : (gl.all fun p => decide (p.1 < 1000000)) = true) (hg2 : (gl.all fun p => decide (p.2 < 1000000)) = true)
    (hd : dstOk N o.dst) (ho : o.op = .call c) (hc : c.callee = .value xo) (hx : calleeV (σ.eval xo) = some (f, caps)) (hcal : callable P f = true)
    (hrow : handLU lc (renOf gl) (dynH nc (subs g L) lH) lH) (hinj : injL (renOf gl) lH) (hgs : givL (renOf gl) gs lH) (him : imgL (renOf gl) lH gs) (hgl : (gs.all fun p => decide (p < 1000000)) = true)
    (henv : freeEnv gs σ.env) (henv2 : lowEnv σ.env) (hdfr : σ.dfr = []) (hout : freeHeap (renOf gl) lH gs lc) (hout2 : lowOut (renOf gl) lH lc)
    (ha : handsOk σ.heap (dynH nc (subs g L) lH) (renOf gl) (evalL σ c.args.toList ++ caps) args)
    (hback : backLU lH (renOf gl) gs (dynH nc (subs g L') lH') lH') (hall : allIn lH' lH) (hinj2 : injL (renOf gl) lH') (hcl : clean res) (hrf : refsIn (dynH nc (subs g L') lH') res)
    (hK : K (({ σ with heap := dynH nc (subs g L') (hmerge (renOf gl) lH' (hdrop gs lc)) } : St).put o.dst (res.ren (renOf gl)))) : OpT P G ro N o σ K := by
  have hsn : ∀ (M : List α) (l : Heap), lows l → ∀ j, hget (dynH nc (subs g M) l) (sn nc j) = (M[j]?).map g := fun M l hl j => by rw [hget_dyn_sn j hl, subs_get]
  have hcase : ∀ (M : List α) (l : Heap), lows l → ∀ r x, hget (dynH nc (subs g M) l) r = some x → (∃ j, r = sn nc j ∧ (M[j]?).map g = some x) ∨ (r < 1000000 ∧ hget l r = some x) := fun M l hl r x h => by
    rcases hget_dyn_some h with ⟨j, h1, h2⟩ | h
    · rw [subs_get] at h2; exact .inl ⟨j, h1, h2⟩
    · by_cases hr : r < 1000000
      · exact .inr ⟨hr, h⟩
      · rw [lows_get hl r (by omega)] at h; cases h
  have hbig : ∀ j, 1000000 ≤ sn nc j := fun j => by unfold sn; omega
  have hlow : ∀ r, r < 1000000 → renOf gl r < 1000000 := fun r h => renOf_low hg2 h
  have hhigh : ∀ j, renOf gl (sn nc j) = sn nc j := fun j => renOf_high hg1 (hbig j)
  have hlen : ∀ (M : List α) j x, (M[j]?).map g = some x → j < M.length ∧ ∃ z, M[j]? = some z ∧ x = g z := fun M j x h => by
    cases hj : M[j]? with
    | none => rw [hj] at h; cases h
    | some z => rw [hj] at h; simp only [Option.map_some, Option.some.injEq] at h; exact ⟨(List.getElem?_eq_some_iff.1 hj).1, z, rfl, h.symm⟩
  have hgsl : ∀ s ∈ gs, s < 1000000 := fun s h => by simpa using List.all_eq_true.1 hgl s h
  have hmem : ∀ s, s ∈ gs ++ (List.range L.length).map (sn nc) ↔ s ∈ gs ∨ ∃ j, j < L.length ∧ s = sn nc j := fun s => by
    simp only [List.mem_append, List.mem_map, List.mem_range]
    exact or_congr Iff.rfl ⟨fun ⟨j, h1, h2⟩ => ⟨j, h1, h2.symm⟩, fun ⟨j, h1, h2⟩ => ⟨j, h1, h2.symm⟩⟩
  have hrefs : ∀ (H0 : Heap) (x : α), refsInL H0 (g x).els := fun H0 x => by
    obtain ⟨_, l, h⟩ := NestG.data (g := g) x
    rw [h, refsInL_d]; trivial
  have hclean : ∀ (x : α), cleanL (g x).els := fun x => by
    obtain ⟨_, l, h⟩ := NestG.data (g := g) x
    rw [h]
    induction l with
    | nil => trivial
    | cons p l ih => exact ⟨trivial, (by have : ∀ l : List PD, cleanL (l.map PV.d) := fun l => by
                                          induction l with
                                          | nil => trivial
                                          | cons q l ih => exact ⟨trivial, ih⟩
                                         exact this l)⟩
  have hinj0 : ∀ (M : List α) (l : Heap), lows l → injL (renOf gl) l → ∀ r s x y, hget (dynH nc (subs g M) l) r = some x → hget (dynH nc (subs g M) l) s = some y → renOf gl r = renOf gl s → r = s := fun M l hl hi r s x y h h' he => by
    rcases hcase M l hl r x h with ⟨j, rfl, _⟩ | ⟨h1, h2⟩ <;> rcases hcase M l hl s y h' with ⟨j', rfl, _⟩ | ⟨h1', h2'⟩
    · rw [hhigh, hhigh] at he; exact he
    · rw [hhigh] at he; have := hlow s h1'; have := hbig j; omega
    · rw [hhigh] at he; have := hlow r h1; have := hbig j'; omega
    · exact injL_get hi r s x y (hget_mem h2) (hget_mem h2') he
  have hnone : ∀ j, L.length ≤ j → hget σ.heap (sn nc j) = none := fun j h => by rw [hs, hsn L lc hlc, List.getElem?_eq_none h]; rfl
  refine OpT.relook (σ' := ({ σ with heap := dynH nc (subs g L') (hmerge (renOf gl) lH' (hdrop gs lc)) } : St).put o.dst (res.ren (renOf gl))) ?_ hK
  refine OpT.callU (H := dynH nc (subs g L) lH) (g := renOf gl) (gs := gs ++ (List.range L.length).map (sn nc)) ho hc hx hcal hf
    ⟨⟨fun r x h => ?_, hinj0 L lH hlH hinj, fun r x h => ?_⟩, fun r x h hr => ?_, fun r x h hr => ?_, fun s h => ?_, fun s h => ?_, fun s h t => ?_, fun s _ => by rw [hdfr]; simp [rowsOfL], fun s h t y hy hn => ?_⟩ ha hd ?_
  · rcases hcase L lH hlH r x h with ⟨j, rfl, h2⟩ | ⟨h1, h2⟩
    · obtain ⟨_, z, _, rfl⟩ := hlen L j x h2
      rw [hhigh, hs, hsn L lc hlc, h2, NestG.ren]
    · rw [hs, hget_dyn (hlow r h1)]; exact (handLU_get hrow r x h2).1
  · rcases hcase L lH hlH r x h with ⟨j, rfl, h2⟩ | ⟨h1, h2⟩
    · obtain ⟨_, z, _, rfl⟩ := hlen L j x h2; exact hrefs _ z
    · exact (handLU_get hrow r x h2).2
  · rw [hmem]
    rcases hcase L lH hlH r x h with ⟨j, rfl, h2⟩ | ⟨h1, h2⟩
    · exact .inr ⟨j, (hlen L j x h2).1, hhigh j⟩
    · have := givL_get hgs r x h2
      rw [if_neg (by omega)] at this; exact .inl this
  · rw [hmem]
    rintro (h3 | ⟨j, _, h3⟩)
    · rcases hcase L lH hlH r x h with ⟨j, rfl, h2⟩ | ⟨h1, h2⟩
      · have := hbig j; omega
      · have := givL_get hgs r x h2
        rw [if_pos hr] at this; exact this h3
    · have := hlow r (by omega); have := hbig j; omega
  · rcases (hmem s).1 h with h | ⟨j, h1, rfl⟩
    · obtain ⟨⟨r, x, h2, h3⟩, _⟩ := imgL_get him s h
      have hr : r < 1000000 := Nat.lt_of_not_le fun h4 => by rw [lows_get hlH r h4] at h2; cases h2
      exact ⟨r, x, by rw [hget_dyn hr]; exact h2, h3⟩
    · exact ⟨sn nc j, g L[j], by rw [hsn L lH hlH, List.getElem?_eq_getElem h1]; rfl, hhigh j⟩
  · rcases (hmem s).1 h with h | ⟨j, h1, rfl⟩
    · exact (imgL_get him s h).2
    · have := hbig j; omega
  · rcases (hmem s).1 h with h | ⟨j, h1, rfl⟩
    · exact freeEnv_get henv s h t
    · intro hm; have := lowEnv_get henv2 t _ hm; have := hbig j; omega
  · have hy0 := hy
    rw [hs] at hy
    have hty : hget lc t = some y := by
      rcases hcase L lc hlc t y hy with ⟨j, rfl, h2⟩ | ⟨h1, h2⟩
      · exact absurd (hhigh j) (hn (sn nc j) y (by rw [hsn L lH hlH]; exact h2))
      · exact h2
    have hn' : ∀ r x, hget lH r = some x → renOf gl r ≠ t := fun r x hx => hn r x (by
      have hr : r < 1000000 := Nat.lt_of_not_le fun h4 => by rw [lows_get hlH r h4] at hx; cases hx
      rw [hget_dyn hr]; exact hx)
    rcases (hmem s).1 h with h | ⟨j, h1, rfl⟩
    · exact freeHeap_get hout s h t y hty hn'
    · intro hm; have := lowOut_get hout2 t y hty hn' _ hm; have := hbig j; omega
  · rintro p H' ⟨rfl, rfl⟩
    have hb : BackU σ (dynH nc (subs g L) lH) (dynH nc (subs g L') lH') (renOf gl) (renOf gl) (gs ++ (List.range L.length).map (sn nc)) := by
      refine ⟨fun r x' h hr => ?_, fun r x h hr => ?_, fun r x' h hr => ?_, hinj0 L' lH' hlH' hinj2, fun r x h => ?_⟩
      · rcases hcase L' lH' hlH' r x' h with ⟨j, rfl, h2⟩ | ⟨h1, h2⟩
        · have := hbig j; omega
        · have := (backLU_get hback r x' h2).1
          rw [if_pos hr] at this
          split at this
          · rename_i y hy; exact ⟨y, by rw [hget_dyn (by omega)]; exact hy, rfl, this.1, fun hk => this.2.resolve_left (by have := this.1; omega)⟩
          · exact this.elim
      · rcases hcase L lH hlH r x h with ⟨j, rfl, h2⟩ | ⟨h1, h2⟩
        · have := hbig j; omega
        · obtain ⟨x', hx'⟩ := Option.isSome_iff_exists.1 (allIn_get hall r x (hget_mem h2))
          exact ⟨x', by rw [hget_dyn h1]; exact hx'⟩
      · rw [hmem]
        rcases hcase L' lH' hlH' r x' h with ⟨j, rfl, h2⟩ | ⟨h1, h2⟩
        · rw [hhigh]
          refine ⟨?_, by have := hbig j; omega⟩
          by_cases hj : j < L.length
          · exact .inr (.inr ⟨j, hj, rfl⟩)
          · exact .inl (hnone j (by omega))
        · have := (backLU_get hback r x' h2).1
          rw [if_neg (by omega)] at this
          exact ⟨.inr (.inl (by simpa using this.1)), this.2⟩
      · rcases hcase L' lH' hlH' r x h with ⟨j, rfl, h2⟩ | ⟨h1, h2⟩
        · obtain ⟨_, z, _, rfl⟩ := hlen L' j x h2; exact ⟨hrefs _ z, hclean z⟩
        · exact (backLU_get hback r x h2).2
    refine ⟨renOf gl, hb, hcl, hrf, ?_⟩
    have hm := hb.merged
    have hmin : ∀ r x, hget lH' r = some x → hget (hmerge (renOf gl) lH' (hdrop gs lc)) (renOf gl r) = some (x.ren (renOf gl)) := (hmerge_ok (ρ := renOf gl) (l := lH') (H0 := hdrop gs lc) (fun r s hr hs he => by
      obtain ⟨x, hx⟩ := Option.isSome_iff_exists.1 hr
      obtain ⟨y, hy⟩ := Option.isSome_iff_exists.1 hs
      exact injL_get hinj2 r s x y (hget_mem hx) (hget_mem hy) he)).1
    have hmout : ∀ s, (∀ r x, hget lH' r = some x → renOf gl r ≠ s) → hget (hmerge (renOf gl) lH' (hdrop gs lc)) s = if s ∈ gs then none else hget lc s := fun s h => ((hmerge_ok (ρ := renOf gl) (l := lH') (H0 := hdrop gs lc) (fun r s hr hs he => by
      obtain ⟨x, hx⟩ := Option.isSome_iff_exists.1 hr
      obtain ⟨y, hy⟩ := Option.isSome_iff_exists.1 hs
      exact injL_get hinj2 r s x y (hget_mem hx) (hget_mem hy) he)).2 s h).trans (hget_hdrop _ _ _)
    have hlm : ∀ s, 1000000 ≤ s → hget (hmerge (renOf gl) lH' (hdrop gs lc)) s = none := fun s h => by
      rw [hmout s fun r x hx e => by
        have hr : r < 1000000 := Nat.lt_of_not_le fun h4 => by rw [lows_get hlH' r h4] at hx; cases hx
        have := hlow r hr; omega]
      split
      · rfl
      · exact lows_get hlc s h
    have hheap : ∀ s, hget (hmerge (renOf gl) (dynH nc (subs g L') lH') (hdrop (gs ++ (List.range L.length).map (sn nc)) σ.heap)) s = hget (dynH nc (subs g L') (hmerge (renOf gl) lH' (hdrop gs lc))) s := fun s => by
      by_cases hex : ∃ r x, hget (dynH nc (subs g L') lH') r = some x ∧ renOf gl r = s
      · obtain ⟨r, x, h1, rfl⟩ := hex
        rw [hm.inn r x h1]
        rcases hcase L' lH' hlH' r x h1 with ⟨j, rfl, h2⟩ | ⟨h3, h2⟩
        · obtain ⟨_, z, _, rfl⟩ := hlen L' j x h2
          rw [hhigh, NestG.ren]
          have : hget (dynH nc (subs g L') (hmerge (renOf gl) lH' (hdrop gs lc))) (sn nc j) = (((subs g L')[j]?).join) := by
            simp only [dynH, hget_append, hget_dynGo, Nat.zero_le, if_true, Nat.sub_zero, hlm _ (hbig j)]
            cases ((subs g L')[j]?).join <;> rfl
          rw [this, subs_get, h2]
        · rw [hget_dyn (hlow r h3), hmin r x h2]
      · have hn : ∀ r x, hget (dynH nc (subs g L') lH') r = some x → renOf gl r ≠ s := fun r x h1 h2 => hex ⟨r, x, h1, h2⟩
        rw [hm.out s hn, hs]
        by_cases hsl : s < 1000000
        · rw [hget_dyn hsl, hget_dyn hsl]
          have hn' : ∀ r x, hget lH' r = some x → renOf gl r ≠ s := fun r x hx => hn r x (by
            have hr : r < 1000000 := Nat.lt_of_not_le fun h4 => by rw [lows_get hlH' r h4] at hx; cases hx
            rw [hget_dyn hr]; exact hx)
          rw [hmout s hn']
          by_cases h1 : s ∈ gs
          · rw [if_pos ((hmem s).2 (.inl h1)), if_pos h1]
          · rw [if_neg h1, if_neg]
            intro h2
            rcases (hmem s).1 h2 with h2 | ⟨j, _, rfl⟩
            · exact h1 h2
            · have := hbig j; omega
        · have hd2 : ∀ (M : List (Option Row)) (l : Heap), hget l s = none → hget (dynH nc M l) s = hget (dynGo nc 0 M) s := fun M l hl => by
            simp only [dynH, hget_append, hl]; cases hget (dynGo nc 0 M) s <;> rfl
          rw [hd2 _ _ (hlm s (by omega))]
          have h0 : hget (dynGo nc 0 (subs g L')) s = none := by
            cases hh : hget (dynGo nc 0 (subs g L')) s with
            | none => rfl
            | some y =>
              obtain ⟨j, rfl, h3, _⟩ := hget_dynGo_name _ 0 hh
              rw [Nat.sub_zero, subs_get] at h3
              exact absurd (hhigh j) (hn (sn nc j) y (by rw [hsn L' lH' hlH']; exact h3))
          rw [h0]
          split
          · rfl
          · rename_i hns
            rw [hd2 _ _ (lows_get hlc s (by omega))]
            cases hh : hget (dynGo nc 0 (subs g L)) s with
            | none => rfl
            | some y =>
              obtain ⟨j, rfl, h3, _⟩ := hget_dynGo_name _ 0 hh
              rw [Nat.sub_zero, subs_get] at h3
              exact absurd ((hmem _).2 (.inr ⟨j, (hlen L j y h3).1, rfl⟩)) hns
    refine ⟨?_, by rw [St.put_rest, St.put_rest]; rfl⟩
    funext key
    cases key with
    | t t => cases hdst : o.dst <;> simp [St.look, St.put]
    | h s =>
      have := hheap s
      cases hdst : o.dst <;> simp [St.look, St.put, this]
end
end Go.Pv

namespace Go.Pv
section
variable {P : Program} {G : List (Nat × PD)} {ro : Option Nat} {N : Nat} {ops : Array Oper} {σ σ' : St} {o : Oper} {rest : List Oper}
@[go_sem] theorem nelF_cleanT {α : Type} {c : Nat} {F : Nat → α → PV} [NestF F] {L : List α} : cleanL (nelF c F L) = True := eq_true nelF_clean
theorem nest0 {α : Type} (c : Nat) (g : α → Row) : Sub G N σ ⟨σ.env, dynH c (subs g []) σ.heap, σ.dfr, σ.gh⟩ := fun _ _ _ _ φ hr => ⟨φ, hr⟩
theorem drp (e' : List (Nat × PV)) (h : envLe e' σ.env := by (repeat' (first | exact trivial | exact rfl | exact slcl (by (simp only [List.length_append, List.length_set, List.length_replicate, List.length_cons, List.length_nil, Nat.zero_add]; done)) | apply And.intro))) : Sub G N σ ⟨e', σ.heap, σ.dfr, σ.gh⟩ := by
  intro P B a w φ hr
  refine ⟨φ, ⟨hr.size, fun t => ?_, hr.heap, hr.keeps, hr.new, hr.pins, hr.psz, hr.glob, hr.tnew, hr.inv, hr.dfr⟩⟩
  rcases envLe_get h t with h | h
  · rw [h]; exact .any _
  · rw [h]; exact hr.env t
theorem Sub.voidVar (s e k r : Nat) {x : Row} (hs : hget σ.heap s = some x) (hk1 : 1 ≤ x.k) (hels : x.els = [.d .nilslice]) (hr0 : hget σ.heap r = none) (hr : 1000 ≤ r) (hk : 1 ≤ k) :
    Sub G N σ { env := σ.env, heap := hput (hput σ.heap s { x with els := [.slc r 0 0] }) r { e, k, els := [] }, dfr := σ.dfr, gh := σ.gh } := by
  have h := Sub.voidEl (G := G) (N := N) (σ := σ) s 0 e k r (x := x) (p := .d .nilslice) (p' := .slc r 0 0) hs hk1 (by rw [hels]; rfl) rfl hr0 hr fun w X φ H v h1 h2 h3 => void_slc hk h1 h2 h3
  rw [hels] at h
  exact h
theorem fcs {α : Type} (c i q : Nat) (y : Row) {F : Nat → α → PV} {g : α → Row} [NestF F] [NestG g] {L : List α} {x : α} {l l' : Heap} {e' : List (Nat × PV)} (hx : L[i]? = some x)
    (hy : g x = y := by rfl) (hs : σ.heap = dynH c (subs g L) l := by rfl) (hlow : lows l := by (repeat' (first | exact trivial | decide | apply And.intro))) (hq : hget l q = none := by rfl) (hq1 : 1000 ≤ q := by decide) (hq2 : q < 1000000 := by decide)
    (hl : renHeap (foc c i q) l = l' := by (simp only [renHeap, Row.ren, renL, PV.ren, dl_ren, mels_ren, optP_ren, foc_low, Nat.reduceLT]; rfl)) (he : renEnv (foc c i q) σ.env = e' := by (simp only [renEnv, renL, PV.ren, optP_ren, foc_low, Nat.reduceLT]; rfl)) (hd : σ.dfr = [] := by rfl) :
    Sub G N σ ⟨e', dynH c ((subs g L).set i none) ((q, y) :: l'), σ.dfr, σ.gh⟩ := hy ▸ Sub.focus (F := F) c i q hx hs hlow hq hq1 hq2 hl he hd
mutual
theorem PV.ren_id : ∀ p : PV, p.ren id = p
  | .func fn l => by simp only [PV.ren, renL_id l]
  | .agg l => by simp only [PV.ren, renL_id l]
  | .tuple l => by simp only [PV.ren, renL_id l]
  | .ptr .. => by simp only [PV.ren, id]
  | .slc .. => by simp only [PV.ren, id]
  | .mp .. => by simp only [PV.ren, id]
  | .any | .d _ | .b _ | .dptr .. | .bptr .. | .glob _ => by simp only [PV.ren]
theorem renL_id : ∀ l : List PV, renL id l = l
  | [] => by simp only [renL]
  | p :: l => by simp only [renL, PV.ren_id p, renL_id l]
end
theorem Row.ren_id (x : Row) : x.ren id = x := by simp only [Row.ren, renL_id]
theorem Sub.same {H : Heap} (h : ∀ r, hget H r = hget σ.heap r) : Sub G N σ ⟨σ.env, H, σ.dfr, σ.gh⟩ :=
  Sub.ren (ρ := id) ⟨fun t => (PV.ren_id _).symm, fun r x hx => by rw [Row.ren_id]; exact (h r).trans hx, fun s y hy => ⟨s, y, (h s).symm.trans hy, rfl⟩, fun r s _ _ _ _ e => e, fun _ _ _ _ => rfl, fun _ _ _ hr => hr, by
    show σ.dfr = σ.dfr.map (PV.ren id)
    rw [← renL_map, renL_id], rfl⟩
def renAt (ρ : Nat → Nat) (o : Option Row) (y : Row) : Prop := match o with
  | some x => x.e = y.e ∧ x.k = y.k ∧ renL ρ x.els = y.els
  | none => False
def renTo (ρ : Nat → Nat) (l : Heap) : Heap → Prop
  | [] => True
  | (s, y) :: m => renAt ρ (hget l s) y ∧ renTo ρ l m
theorem renTo_mem {ρ : Nat → Nat} {l : Heap} : ∀ {m : Heap}, renTo ρ l m → ∀ s y, (s, y) ∈ m → renAt ρ (hget l s) y
  | (r, x) :: m, h, s, y, hm => by
    rcases List.mem_cons.1 hm with hm | hm
    · cases hm; exact h.1
    · exact renTo_mem h.2 s y hm
theorem renTo_eq {ρ : Nat → Nat} {l m : Heap} (h : renTo ρ l m) (hall : allIn m l) (r : Nat) : hget m r = hget (renHeap ρ l) r := by
  rw [hget_renHeap]
  cases hm : hget m r with
  | some y =>
    have := renTo_mem h r y (hget_mem hm)
    cases hl : hget l r with
    | none => rw [hl] at this; exact this.elim
    | some x =>
      rw [hl] at this
      obtain ⟨h2, h3, h4⟩ := this
      simp only [Option.map_some, Row.ren, h4]
      cases x; cases y; simp only at h2 h3; subst h2 h3; rfl
  | none =>
    cases hl : hget l r with
    | none => rfl
    | some x => have := allIn_get hall r x (hget_mem hl); rw [hm] at this; cases this
theorem ufc {α : Type} (c i q : Nat) {F : Nat → α → PV} {g : α → Row} [NestF F] [NestG g] {L : List α} (x : α) (l' : Heap) {l : Heap} {e' : List (Nat × PV)} (hi : i < L.length)
    (hs : σ.heap = dynH c ((subs g L).set i none) l := by rfl) (hlow : lows l := by (repeat' (first | exact trivial | decide | apply And.intro))) (hq : hget l q = some (g x) := by rfl) (hq1 : 1000 ≤ q := by decide) (hq2 : q < 1000000 := by decide)
    (hl : renTo (unf c i q) (hdrop [q] l) l') (hall : allIn l' (hdrop [q] l) := by (repeat' (first | exact trivial | exact rfl | apply And.intro))) (he : renEnv (unf c i q) σ.env = e' := by rfl) (hd : σ.dfr = [] := by rfl) :
    Sub G N σ ⟨e', dynH c (subs g (L.set i x)) l', σ.dfr, σ.gh⟩ := fun P B a w φ hr => by
  obtain ⟨φ, hr⟩ := Sub.unfocus (F := F) c i q x hi hs hlow hq hq1 hq2 rfl he hd P B a w φ hr
  refine Sub.same (fun r => ?_) P B a w φ hr
  simp only [dynH, hget_append, renTo_eq hl hall]
theorem psh {α : Type} (c R j : Nat) {F : Nat → α → PV} {g : α → Row} {L : List α} (x : α) {l l' : Heap} {e k e1 k1 : Nat} {p : PV} {cs : List PV}
    (hs : σ.heap = dynH c (subs g L) l := by rfl) (hlow : lows l := by (repeat' (first | exact trivial | decide | apply And.intro))) (hR : hget l R = some ⟨e1, k1, nelF c F L ++ [p]⟩ := by rfl) (hk1 : 1 ≤ k1 := by decide) (hpb : isByte p = false := by rfl)
    (hg : g x = ⟨e, k, []⟩ := by rfl) (hk : 1 ≤ k := by decide) (hp : isAggPV p = true := by rfl) (hcs : pvCells p = some cs := by rfl) (hi : cs[j]? = some (.d .nilslice) := by rfl) (hF : ∀ r, PV.agg (cs.set j (.slc r 0 0)) = F r x := by (intro r; rfl))
    (hl : hput l R ⟨e1, k1, nelF c F (L ++ [x])⟩ = l' := by (simp only [hput, ↓reduceIte, Nat.reduceEqDiff]; rfl)) : Sub G N σ ⟨σ.env, dynH c (subs g (L ++ [x])) l', σ.dfr, σ.gh⟩ :=
  Sub.push c R e k x hs hlow hR hk1 hpb hg (fun w X φ H v h1 h2 h3 => hF _ ▸ void_agg hp hcs hi hk h1 h2 h3) hl
theorem unn {α : Type} (c R : Nat) {F : Nat → α → PV} {g : α → Row} (pd : α → PD) [NestF F] [NestG g] [NestP F g pd] {L : List α} {l l' : Heap} {e k : Nat}
    (hs : σ.heap = dynH c (subs g L) l := by rfl) (hlow : lows l := by (repeat' (first | exact trivial | decide | apply And.intro))) (hR : hget l R = some ⟨e, k, nelF c F L⟩ := by rfl)
    (henv : lowEnv σ.env := by (repeat' (first | exact trivial | exact rfl | apply And.intro))) (hrows : lowRows R l := by (repeat' (first | exact trivial | exact .inl rfl | exact .inr rfl | exact .inr (by simp only [go_sem, List.all_nil]) | apply And.intro))) (hd : σ.dfr = [] := by rfl) (hgh : σ.gh = none := by rfl)
    (hl : hput l R ⟨e, k, dl (lenc pd L)⟩ = l' := by (simp only [hput, ↓reduceIte, Nat.reduceEqDiff]; rfl)) : Sub G N σ ⟨σ.env, l', σ.dfr, σ.gh⟩ := Sub.unnest (F := F) c R pd hs hlow hR henv hrows hd hgh hl
theorem clD {α : Type} {nc : Nat} {g : α → Row} [NestG g] {L L' : List α} {c : Call} {f : FuncId} {xo : Operand} {caps args : List PV} {res : PV} {lH lH' lc : Heap} {Q : St → Prop} (gl : List (Nat × Nat)) (gs : List Nat)
    (hf : ObjFn P G f args (dynH nc (subs g L) lH) res (dynH nc (subs g L') lH')) (h2 : AOps P G ro N ops rest σ' Q)
    (hd : dstOk N o.dst := by (simp only [go_sem, ↓reduceIte]; done)) (hg : ∀ {K : St → Prop}, OpT P G ro N o σ K → vcOpC P G ro N (dsts ops) o σ K := by (intro K k; simp (disch := omega) only [go_sem, ↓reduceIte]; exact k))
    (hs : σ.heap = dynH nc (subs g L) lc := by rfl) (hlH : lows lH := by (repeat' (first | exact trivial | decide | apply And.intro))) (hlH' : lows lH' := by (repeat' (first | exact trivial | decide | apply And.intro))) (hlc : lows lc := by (repeat' (first | exact trivial | decide | apply And.intro)))
    (hg1 : (gl.all fun p => decide (p.1 < 1000000)) = true := by rfl) (hg2 : (gl.all fun p => decide (p.2 < 1000000)) = true := by rfl)
    (ho : o.op = .call c := by rfl) (hc : c.callee = .value xo := by rfl) (hx : calleeV (σ.eval xo) = some (f, caps) := by rfl) (hcal : callable P f = true := by kernel_rfl)
    (hrow : handLU lc (renOf gl) (dynH nc (subs g L) lH) lH := by (simp (disch := decide) only [handLU, Row.ren, nelF_renOf]; simp only [go_sem, ↓reduceIte]; (repeat' (first | exact trivial | exact rfl | exact dyS rfl | exact nelF_refs (by (repeat' (first | exact trivial | decide | apply And.intro))) | (simp only [List.length_append, List.length_set, List.length_replicate, List.length_cons, List.length_nil, Nat.zero_add]; exact rfl) | apply And.intro))))
    (hinj : injL (renOf gl) lH := by (simp only [injL, injOne, go_sem, ↓reduceIte]; (repeat' (first | exact trivial | (intro h; cases h; done) | apply And.intro))))
    (hgs : givL (renOf gl) gs lH := by (simp only [givL, go_sem, ↓reduceIte]; (repeat' (first | exact trivial | exact rfl | apply And.intro))))
    (him : imgL (renOf gl) lH gs := by (repeat' (first | exact trivial | exact rfl | decide | apply And.intro))) (hgl : (gs.all fun p => decide (p < 1000000)) = true := by rfl)
    (henv : freeEnv gs σ.env := by (repeat' (first | exact trivial | exact rfl | apply And.intro))) (henv2 : lowEnv σ.env := by (repeat' (first | exact trivial | exact rfl | apply And.intro))) (hdfr : σ.dfr = [] := by rfl)
    (hout : freeHeap (renOf gl) lH gs lc := by (repeat' (first | exact trivial | exact .inl rfl | exact .inr rfl | exact .inr (by simp only [go_sem, List.any_nil]) | apply And.intro)))
    (hout2 : lowOut (renOf gl) lH lc := by (repeat' (first | exact trivial | exact .inl rfl | exact .inr rfl | exact .inr (by simp only [go_sem, List.all_nil]) | apply And.intro)))
    (ha : handsOk σ.heap (dynH nc (subs g L) lH) (renOf gl) (evalL σ c.args.toList ++ caps) args := by (repeat' (first | exact trivial | exact rfl | exact dyS rfl | apply And.intro | (simp only [go_sem, ↓reduceIte]; done))))
    (hback : backLU lH (renOf gl) gs (dynH nc (subs g L') lH') lH' := by (simp only [backLU, go_sem, ↓reduceIte]; (repeat' (first | exact trivial | exact rfl | exact dyS rfl | exact nelF_refs (by (repeat' (first | exact trivial | decide | apply And.intro))) | exact nelF_clean | exact .inl trivial | exact .inl rfl | exact .inr rfl | decide | apply And.intro))))
    (hall : allIn lH' lH := by (repeat' (first | exact trivial | exact rfl | apply And.intro))) (hinj2 : injL (renOf gl) lH' := by (simp only [injL, injOne, go_sem, ↓reduceIte]; (repeat' (first | exact trivial | (intro h; cases h; done) | apply And.intro))))
    (hp : ({ σ with heap := dynH nc (subs g L') (hmerge (renOf gl) lH' (hdrop gs lc)) } : St).put o.dst (res.ren (renOf gl)) = σ' := by (simp (disch := decide) only [hmerge, Row.ren, nelF_renOf]; simp only [hdrop, go_sem, ↓reduceIte]; rfl))
    (hcl : clean res := by (simp only [clean, cleanL, and_self]; done)) (hrf : refsIn (dynH nc (subs g L') lH') res := by (first | exact trivial | exact rfl | (simp only [go_sem, ↓reduceIte]; done))) :
    AOps P G ro N ops (o :: rest) σ Q :=
  AOps.consC hd fun K hK => hg (OpT.callD gl gs hf hs hlH hlH' hlc hg1 hg2 hd ho hc hx hcal hrow hinj hgs him hgl henv henv2 hdfr hout hout2 ha hback hall hinj2 hcl hrf (hp ▸ hK _ h2))
end
end Go.Pv

namespace Go.Pv
section
variable {P : Program} {G : List (Nat × PD)} {ro : Option Nat} {N : Nat} {xs : Exc} {σ : St} {o : Oper}
theorem OpX.appIn {K : Foot → St → Prop} {s x : Operand} {t e : TypeId} {y z : Ty} {r n : Nat} {row : Row} {L : List PV} {xd : PD} (ho : o.op = .call { callee := .builtin .append, args := #[s, x], argTypes := #[t, t] })
    (ht : tyOf P t = some y) (hde : y.desc = .slice e) (he : tyOf P e = some z) (hk : 1 ≤ z.size)
    (hs : σ.eval s = .slc r 0 n) (hx : hget σ.heap r = some row) (hre : row.e = e) (hrk : row.k = z.size) (hxd : σ.eval x = .d xd)
    (hsrc : ∀ H, srcV z.size H (.d xd) = some L) (hle : n + L.length ≤ row.els.length) (hd : dstOk N o.dst) (hnb : ∀ p, row.els[0]? = some p → isByte p = false)
    (hxe : exE xs (dstEff o.dst (.slc r 0 (n + L.length)) ++ [(.h r, .r (some { row with els := row.els.take n ++ L ++ row.els.drop (n + L.length) }))]))
    (hK : K (some (.h r :: tmpKeys (opnds o.op), dstKeys o.dst ++ [.h r])) (({ σ with heap := hput σ.heap r { row with els := row.els.take n ++ L ++ row.els.drop (n + L.length) } } : St).put o.dst (.slc r 0 (n + L.length)))) : OpX P G ro N xs o σ K := by
  refine ⟨_, _, ?_, hK⟩
  refine ⟨dstEff o.dst (.slc r 0 (n + L.length)) ++ [(.h r, .r (some { row with els := row.els.take n ++ L ++ row.els.drop (n + L.length) }))], fun k hk => ?_, hxe, fun σ' hd' hs' _ => ?_, look_row _ _ _ _ _, St.put_rest _ _ _⟩
  · have := ekeys_dst o.dst (.slc r 0 (n + L.length))
    simp only [ekeys, List.map_append, List.map_cons, List.map_nil] at hk this
    rw [this] at hk; exact hk
  · have h1 := eval_agree (σ := σ) (σ' := σ') (l := opnds o.op) fun k hk => hs' k (List.mem_cons_of_mem _ hk)
    have h2 : hget σ'.heap r = hget σ.heap r := by
      have := hs' (.h r) (List.mem_cons_self ..)
      simpa only [St.look, Cont.r.injEq] using this
    have e1 : σ'.eval s = .slc r 0 n := by rw [h1 s (by rw [ho]; simp [opnds])]; exact hs
    have e2 : σ'.eval x = .d xd := by rw [h1 x (by rw [ho]; simp [opnds])]; exact hxd
    exact OpT.appendIn ho ht hde he hk e1 (h2.trans hx) hre hrk (by rw [e2]; exact hsrc _) hle hd hnb ⟨by rw [St.put_rest]; exact hd', look_row _ _ _ _ _⟩
end
theorem app_dl {α : Type} (f : α → PD) (A M : List α) (n k : Nat) : (dl (lenc f A)).take n ++ dl (lenc f M) ++ (dl (lenc f A)).drop k = dl (lenc f (A.take n ++ M ++ A.drop k)) := by simp [dl, lenc, List.map_take, List.map_drop]
theorem dl_len {α : Type} (f : α → PD) (A : List α) : (dl (lenc f A)).length = A.length := by simp [dl, lenc]
end Go.Pv

namespace Go.Pv
structure StringsBuilder where
  addr : Bool
  buf : (List Int)
deriving DecidableEq
instance : Inhabited StringsBuilder := ⟨⟨false, []⟩⟩
structure Band where
  Lo : Int
  Hi : Int
deriving DecidableEq
instance : Inhabited Band := ⟨⟨0, 0⟩⟩
def Band.pd (x : Band) : PD := .agg [(.int .i64 x.Lo), (.int .i64 x.Hi)]
attribute [go_sem] Band.pd
@[go_sem] theorem snoc_Band (l : List Band) (a0 : Int) (a1 : Int) : dl (lenc Band.pd l) ++ [PV.d (PD.agg [(.int .i64 a0), (.int .i64 a1)])] = dl (lenc Band.pd (l ++ [(⟨a0, a1⟩ : Band)])) := lenc_snoc Band.pd l (⟨a0, a1⟩ : Band)
@[go_sem] theorem set_Band (l : List Band) (i : Nat) (a0 : Int) (a1 : Int) : (lenc Band.pd l).set i (PD.agg [(.int .i64 a0), (.int .i64 a1)]) = lenc Band.pd (l.set i (⟨a0, a1⟩ : Band)) := lenc_set Band.pd l i (⟨a0, a1⟩ : Band)
@[go_sem] theorem rep_Band (n : Nat) (a0 : Int) (a1 : Int) : List.replicate n (PD.agg [(.int .i64 a0), (.int .i64 a1)]) = lenc Band.pd (List.replicate n (⟨a0, a1⟩ : Band)) := lenc_rep Band.pd n (⟨a0, a1⟩ : Band)
structure Rule where
  Bands : (List Band)
  Code : Int
deriving DecidableEq
instance : Inhabited Rule := ⟨⟨[], 0⟩⟩
def Rule.pd (x : Rule) : PD := .agg [(.imm 2 (lenc Band.pd x.Bands)), (.int .i64 x.Code)]
attribute [go_sem] Rule.pd
@[go_sem] theorem snoc_Rule (l : List Rule) (a0 : (List Band)) (a1 : Int) : dl (lenc Rule.pd l) ++ [PV.d (PD.agg [(.imm 2 (lenc Band.pd a0)), (.int .i64 a1)])] = dl (lenc Rule.pd (l ++ [(⟨a0, a1⟩ : Rule)])) := lenc_snoc Rule.pd l (⟨a0, a1⟩ : Rule)
@[go_sem] theorem set_Rule (l : List Rule) (i : Nat) (a0 : (List Band)) (a1 : Int) : (lenc Rule.pd l).set i (PD.agg [(.imm 2 (lenc Band.pd a0)), (.int .i64 a1)]) = lenc Rule.pd (l.set i (⟨a0, a1⟩ : Rule)) := lenc_set Rule.pd l i (⟨a0, a1⟩ : Rule)
@[go_sem] theorem rep_Rule (n : Nat) (a0 : (List Band)) (a1 : Int) : List.replicate n (PD.agg [(.imm 2 (lenc Band.pd a0)), (.int .i64 a1)]) = lenc Rule.pd (List.replicate n (⟨a0, a1⟩ : Rule)) := lenc_rep Rule.pd n (⟨a0, a1⟩ : Rule)
structure Arr3_Int where
  c0 : Int
  c1 : Int
  c2 : Int
deriving DecidableEq
instance : Inhabited Arr3_Int := ⟨⟨0, 0, 0⟩⟩
def Arr3_Int.pd (x : Arr3_Int) : PD := .agg [(.int .i64 x.c0), (.int .i64 x.c1), (.int .i64 x.c2)]
attribute [go_sem] Arr3_Int.pd
@[go_sem] theorem snoc_Arr3_Int (l : List Arr3_Int) (a0 : Int) (a1 : Int) (a2 : Int) : dl (lenc Arr3_Int.pd l) ++ [PV.d (PD.agg [(.int .i64 a0), (.int .i64 a1), (.int .i64 a2)])] = dl (lenc Arr3_Int.pd (l ++ [(⟨a0, a1, a2⟩ : Arr3_Int)])) := lenc_snoc Arr3_Int.pd l (⟨a0, a1, a2⟩ : Arr3_Int)
@[go_sem] theorem set_Arr3_Int (l : List Arr3_Int) (i : Nat) (a0 : Int) (a1 : Int) (a2 : Int) : (lenc Arr3_Int.pd l).set i (PD.agg [(.int .i64 a0), (.int .i64 a1), (.int .i64 a2)]) = lenc Arr3_Int.pd (l.set i (⟨a0, a1, a2⟩ : Arr3_Int)) := lenc_set Arr3_Int.pd l i (⟨a0, a1, a2⟩ : Arr3_Int)
@[go_sem] theorem rep_Arr3_Int (n : Nat) (a0 : Int) (a1 : Int) (a2 : Int) : List.replicate n (PD.agg [(.int .i64 a0), (.int .i64 a1), (.int .i64 a2)]) = lenc Arr3_Int.pd (List.replicate n (⟨a0, a1, a2⟩ : Arr3_Int)) := lenc_rep Arr3_Int.pd n (⟨a0, a1, a2⟩ : Arr3_Int)
structure Walker where
  k : Int
  s : (List Rule)
  t : (List Rule)
deriving DecidableEq
instance : Inhabited Walker := ⟨⟨0, [], []⟩⟩
def Walker.pd (x : Walker) : PD := .agg [(.int .i64 x.k), (.imm 2 (lenc Rule.pd x.s)), (.imm 2 (lenc Rule.pd x.t))]
attribute [go_sem] Walker.pd
@[go_sem] theorem snoc_Walker (l : List Walker) (a0 : Int) (a1 : (List Rule)) (a2 : (List Rule)) : dl (lenc Walker.pd l) ++ [PV.d (PD.agg [(.int .i64 a0), (.imm 2 (lenc Rule.pd a1)), (.imm 2 (lenc Rule.pd a2))])] = dl (lenc Walker.pd (l ++ [(⟨a0, a1, a2⟩ : Walker)])) := lenc_snoc Walker.pd l (⟨a0, a1, a2⟩ : Walker)
@[go_sem] theorem set_Walker (l : List Walker) (i : Nat) (a0 : Int) (a1 : (List Rule)) (a2 : (List Rule)) : (lenc Walker.pd l).set i (PD.agg [(.int .i64 a0), (.imm 2 (lenc Rule.pd a1)), (.imm 2 (lenc Rule.pd a2))]) = lenc Walker.pd (l.set i (⟨a0, a1, a2⟩ : Walker)) := lenc_set Walker.pd l i (⟨a0, a1, a2⟩ : Walker)
@[go_sem] theorem rep_Walker (n : Nat) (a0 : Int) (a1 : (List Rule)) (a2 : (List Rule)) : List.replicate n (PD.agg [(.int .i64 a0), (.imm 2 (lenc Rule.pd a1)), (.imm 2 (lenc Rule.pd a2))]) = lenc Walker.pd (List.replicate n (⟨a0, a1, a2⟩ : Walker)) := lenc_rep Walker.pd n (⟨a0, a1, a2⟩ : Walker)
structure Node where
  Mark : Int
  Cuts : (List Int)
  To : (List Int)
deriving DecidableEq
instance : Inhabited Node := ⟨⟨0, [], []⟩⟩
def Node.pd (x : Node) : PD := .agg [(.int .i64 x.Mark), (.imm 1 (lenc (PD.int .i64) x.Cuts)), (.imm 1 (lenc (PD.int .i64) x.To))]
attribute [go_sem] Node.pd
@[go_sem] theorem snoc_Node (l : List Node) (a0 : Int) (a1 : (List Int)) (a2 : (List Int)) : dl (lenc Node.pd l) ++ [PV.d (PD.agg [(.int .i64 a0), (.imm 1 (lenc (PD.int .i64) a1)), (.imm 1 (lenc (PD.int .i64) a2))])] = dl (lenc Node.pd (l ++ [(⟨a0, a1, a2⟩ : Node)])) := lenc_snoc Node.pd l (⟨a0, a1, a2⟩ : Node)
@[go_sem] theorem set_Node (l : List Node) (i : Nat) (a0 : Int) (a1 : (List Int)) (a2 : (List Int)) : (lenc Node.pd l).set i (PD.agg [(.int .i64 a0), (.imm 1 (lenc (PD.int .i64) a1)), (.imm 1 (lenc (PD.int .i64) a2))]) = lenc Node.pd (l.set i (⟨a0, a1, a2⟩ : Node)) := lenc_set Node.pd l i (⟨a0, a1, a2⟩ : Node)
@[go_sem] theorem rep_Node (n : Nat) (a0 : Int) (a1 : (List Int)) (a2 : (List Int)) : List.replicate n (PD.agg [(.int .i64 a0), (.imm 1 (lenc (PD.int .i64) a1)), (.imm 1 (lenc (PD.int .i64) a2))]) = lenc Node.pd (List.replicate n (⟨a0, a1, a2⟩ : Node)) := lenc_rep Node.pd n (⟨a0, a1, a2⟩ : Node)
structure Builder where
  k : Int
  rules : (List Rule)
  known : (List (Arr3_Int × Int))
  same : (List (ByteArray × Int))
  nodes : (List Node)
deriving DecidableEq
instance : Inhabited Builder := ⟨⟨0, [], [], [], []⟩⟩
structure Table where
  heads : (List Int)
  next : (List Int)
  keys : (List Arr3_Int)
deriving DecidableEq
instance : Inhabited Table := ⟨⟨[], [], []⟩⟩
def Table.pd (x : Table) : PD := .agg [(.imm 1 (lenc (PD.int .i64) x.heads)), (.imm 1 (lenc (PD.int .i64) x.next)), (.imm 3 (lenc Arr3_Int.pd x.keys))]
attribute [go_sem] Table.pd
@[go_sem] theorem snoc_Table (l : List Table) (a0 : (List Int)) (a1 : (List Int)) (a2 : (List Arr3_Int)) : dl (lenc Table.pd l) ++ [PV.d (PD.agg [(.imm 1 (lenc (PD.int .i64) a0)), (.imm 1 (lenc (PD.int .i64) a1)), (.imm 3 (lenc Arr3_Int.pd a2))])] = dl (lenc Table.pd (l ++ [(⟨a0, a1, a2⟩ : Table)])) := lenc_snoc Table.pd l (⟨a0, a1, a2⟩ : Table)
@[go_sem] theorem set_Table (l : List Table) (i : Nat) (a0 : (List Int)) (a1 : (List Int)) (a2 : (List Arr3_Int)) : (lenc Table.pd l).set i (PD.agg [(.imm 1 (lenc (PD.int .i64) a0)), (.imm 1 (lenc (PD.int .i64) a1)), (.imm 3 (lenc Arr3_Int.pd a2))]) = lenc Table.pd (l.set i (⟨a0, a1, a2⟩ : Table)) := lenc_set Table.pd l i (⟨a0, a1, a2⟩ : Table)
@[go_sem] theorem rep_Table (n : Nat) (a0 : (List Int)) (a1 : (List Int)) (a2 : (List Arr3_Int)) : List.replicate n (PD.agg [(.imm 1 (lenc (PD.int .i64) a0)), (.imm 1 (lenc (PD.int .i64) a1)), (.imm 3 (lenc Arr3_Int.pd a2))]) = lenc Table.pd (List.replicate n (⟨a0, a1, a2⟩ : Table)) := lenc_rep Table.pd n (⟨a0, a1, a2⟩ : Table)
structure Search where
  k : Int
  t : (List Rule)
  seen : Table
  many : (List (List Int))
  at_ : (List Int)
  nodes : (List Node)
deriving DecidableEq
instance : Inhabited Search := ⟨⟨0, [], ⟨[], [], []⟩, [], [], []⟩⟩
def Search.pd (x : Search) : PD := .agg [(.int .i64 x.k), (.imm 2 (lenc Rule.pd x.t)), (.imm 1 (lenc (PD.int .i64) x.seen.heads)), (.imm 1 (lenc (PD.int .i64) x.seen.next)), (.imm 3 (lenc Arr3_Int.pd x.seen.keys)), (.imm 1 (lenc (slenc 1 (PD.int .i64)) x.many)), (.imm 1 (lenc (PD.int .i64) x.at_)), (.imm 3 (lenc Node.pd x.nodes))]
attribute [go_sem] Search.pd
@[go_sem] theorem snoc_Search (l : List Search) (a0 : Int) (a1 : (List Rule)) (a2 : (List Int)) (a3 : (List Int)) (a4 : (List Arr3_Int)) (a5 : (List (List Int))) (a6 : (List Int)) (a7 : (List Node)) : dl (lenc Search.pd l) ++ [PV.d (PD.agg [(.int .i64 a0), (.imm 2 (lenc Rule.pd a1)), (.imm 1 (lenc (PD.int .i64) a2)), (.imm 1 (lenc (PD.int .i64) a3)), (.imm 3 (lenc Arr3_Int.pd a4)), (.imm 1 (lenc (slenc 1 (PD.int .i64)) a5)), (.imm 1 (lenc (PD.int .i64) a6)), (.imm 3 (lenc Node.pd a7))])] = dl (lenc Search.pd (l ++ [(⟨a0, a1, (⟨a2, a3, a4⟩ : Table), a5, a6, a7⟩ : Search)])) := lenc_snoc Search.pd l (⟨a0, a1, (⟨a2, a3, a4⟩ : Table), a5, a6, a7⟩ : Search)
@[go_sem] theorem set_Search (l : List Search) (i : Nat) (a0 : Int) (a1 : (List Rule)) (a2 : (List Int)) (a3 : (List Int)) (a4 : (List Arr3_Int)) (a5 : (List (List Int))) (a6 : (List Int)) (a7 : (List Node)) : (lenc Search.pd l).set i (PD.agg [(.int .i64 a0), (.imm 2 (lenc Rule.pd a1)), (.imm 1 (lenc (PD.int .i64) a2)), (.imm 1 (lenc (PD.int .i64) a3)), (.imm 3 (lenc Arr3_Int.pd a4)), (.imm 1 (lenc (slenc 1 (PD.int .i64)) a5)), (.imm 1 (lenc (PD.int .i64) a6)), (.imm 3 (lenc Node.pd a7))]) = lenc Search.pd (l.set i (⟨a0, a1, (⟨a2, a3, a4⟩ : Table), a5, a6, a7⟩ : Search)) := lenc_set Search.pd l i (⟨a0, a1, (⟨a2, a3, a4⟩ : Table), a5, a6, a7⟩ : Search)
@[go_sem] theorem rep_Search (n : Nat) (a0 : Int) (a1 : (List Rule)) (a2 : (List Int)) (a3 : (List Int)) (a4 : (List Arr3_Int)) (a5 : (List (List Int))) (a6 : (List Int)) (a7 : (List Node)) : List.replicate n (PD.agg [(.int .i64 a0), (.imm 2 (lenc Rule.pd a1)), (.imm 1 (lenc (PD.int .i64) a2)), (.imm 1 (lenc (PD.int .i64) a3)), (.imm 3 (lenc Arr3_Int.pd a4)), (.imm 1 (lenc (slenc 1 (PD.int .i64)) a5)), (.imm 1 (lenc (PD.int .i64) a6)), (.imm 3 (lenc Node.pd a7))]) = lenc Search.pd (List.replicate n (⟨a0, a1, (⟨a2, a3, a4⟩ : Table), a5, a6, a7⟩ : Search)) := lenc_rep Search.pd n (⟨a0, a1, (⟨a2, a3, a4⟩ : Table), a5, a6, a7⟩ : Search)
structure Compare where
  k : Int
  s : (List Rule)
  t : (List Rule)
  alike : Table
deriving DecidableEq
instance : Inhabited Compare := ⟨⟨0, [], [], ⟨[], [], []⟩⟩⟩
def Compare.pd (x : Compare) : PD := .agg [(.int .i64 x.k), (.imm 2 (lenc Rule.pd x.s)), (.imm 2 (lenc Rule.pd x.t)), (.imm 1 (lenc (PD.int .i64) x.alike.heads)), (.imm 1 (lenc (PD.int .i64) x.alike.next)), (.imm 3 (lenc Arr3_Int.pd x.alike.keys))]
attribute [go_sem] Compare.pd
@[go_sem] theorem snoc_Compare (l : List Compare) (a0 : Int) (a1 : (List Rule)) (a2 : (List Rule)) (a3 : (List Int)) (a4 : (List Int)) (a5 : (List Arr3_Int)) : dl (lenc Compare.pd l) ++ [PV.d (PD.agg [(.int .i64 a0), (.imm 2 (lenc Rule.pd a1)), (.imm 2 (lenc Rule.pd a2)), (.imm 1 (lenc (PD.int .i64) a3)), (.imm 1 (lenc (PD.int .i64) a4)), (.imm 3 (lenc Arr3_Int.pd a5))])] = dl (lenc Compare.pd (l ++ [(⟨a0, a1, a2, (⟨a3, a4, a5⟩ : Table)⟩ : Compare)])) := lenc_snoc Compare.pd l (⟨a0, a1, a2, (⟨a3, a4, a5⟩ : Table)⟩ : Compare)
@[go_sem] theorem set_Compare (l : List Compare) (i : Nat) (a0 : Int) (a1 : (List Rule)) (a2 : (List Rule)) (a3 : (List Int)) (a4 : (List Int)) (a5 : (List Arr3_Int)) : (lenc Compare.pd l).set i (PD.agg [(.int .i64 a0), (.imm 2 (lenc Rule.pd a1)), (.imm 2 (lenc Rule.pd a2)), (.imm 1 (lenc (PD.int .i64) a3)), (.imm 1 (lenc (PD.int .i64) a4)), (.imm 3 (lenc Arr3_Int.pd a5))]) = lenc Compare.pd (l.set i (⟨a0, a1, a2, (⟨a3, a4, a5⟩ : Table)⟩ : Compare)) := lenc_set Compare.pd l i (⟨a0, a1, a2, (⟨a3, a4, a5⟩ : Table)⟩ : Compare)
@[go_sem] theorem rep_Compare (n : Nat) (a0 : Int) (a1 : (List Rule)) (a2 : (List Rule)) (a3 : (List Int)) (a4 : (List Int)) (a5 : (List Arr3_Int)) : List.replicate n (PD.agg [(.int .i64 a0), (.imm 2 (lenc Rule.pd a1)), (.imm 2 (lenc Rule.pd a2)), (.imm 1 (lenc (PD.int .i64) a3)), (.imm 1 (lenc (PD.int .i64) a4)), (.imm 3 (lenc Arr3_Int.pd a5))]) = lenc Compare.pd (List.replicate n (⟨a0, a1, a2, (⟨a3, a4, a5⟩ : Table)⟩ : Compare)) := lenc_rep Compare.pd n (⟨a0, a1, a2, (⟨a3, a4, a5⟩ : Table)⟩ : Compare)
def Node.npv (r : Nat) (x : Node) : PV := .agg [.d (.int .i64 x.Mark), .d (.imm 1 (lenc (PD.int .i64) x.Cuts)), .slc r 0 x.To.length]
def Node.sub (x : Node) : Row := ⟨3, 1, dl (lenc (PD.int .i64) x.To)⟩
attribute [go_sem] Node.npv
instance : NestF Node.npv where
  ren ρ r x := by simp [Node.npv, PV.ren, renL]
  rows r x s h := by simpa [Node.npv, rowsOf, rowsOfL] using h
  refs H r x h := by simp [Node.npv, refsIn, refsInL, h]
  kill q r x h := by simp [Node.npv, PV.kill, killL, h]
  clean r x := by simp [Node.npv, clean, cleanL]
  byte r x := rfl
instance : NestG Node.sub := ⟨fun x => ⟨Nat.le_of_ble_eq_true rfl, _, rfl⟩⟩
instance : NestP Node.npv Node.sub Node.pd := ⟨fun H r x h => by
  simp only [Node.npv, Node.pd, frz, frzL, h, Node.sub, dl_allD, lenc_take, List.drop_zero, List.take_length, Option.map_some]⟩
def cloneO {α : Type} (l : List α) : Option (List α) := if l.length ≤ 4294967296 then some l else none
def bWrite (o : StringsBuilder) (s : ByteArray) : Option StringsBuilder := guardO (o.buf.length + s.size ≤ 4294967296) (some ⟨true, o.buf ++ bytesI s⟩)
def bWriteByte (o : StringsBuilder) (c : Int) : Option StringsBuilder := guardO (o.buf.length + 1 ≤ 4294967296) (some ⟨true, o.buf ++ [c]⟩)
def bString (o : StringsBuilder) : Option ByteArray := guardO (byteOk o.buf = true ∧ o.buf ≠ []) (some (ofI o.buf))
def itoaO (n : Int) : Option ByteArray := guardO (-9223372036854775808 ≤ n ∧ n ≤ 9223372036854775807) (some ⟨(Lib.itoa n).toArray⟩)
noncomputable def m_cocketref02_Good_l2 (k1 : Int) (e1 : Rule) : Int → Option (Int ⊕ (Unit ⊕ Int)) := fun m1 =>
 cond (decide (m1 < k1))
  (
  (idx e1.Bands m1).bind fun e2 =>
  cond (decide (e2.Lo < 0))
   (
   some (.inr (.inr 2))
   )
   (
   cond (decide (e2.Hi ≤ e2.Lo))
    (
    some (.inr (.inr 2))
    )
    (
    cond (decide (1000 < e2.Hi))
     (
     some (.inr (.inr 2))
     )
     (
     some (.inl (IntKind.i64.wrap (m1 + 1)))
     )
    )
   )
  )
  (
  some (.inr (.inl ()))
  )
noncomputable def m_cocketref02_Good_l1 (k1 : Int) (t1 : (List Rule)) : Int → Option (Int ⊕ (Unit ⊕ Int)) := fun i1 =>
 cond (decide (i1 < (t1.length : Int)))
  (
  (
  (
   (idx t1 i1).bind fun e1 =>
   cond (((decide (¬(e1.Bands.length : Int) = k1)) || (decide (e1.Code < 0))) || (decide (99 < e1.Code)))
    (
    some (.inr 2)
    )
    (
    (
    (iter (m_cocketref02_Good_l2 k1 e1) 0).bind fun x_33 => match x_33 with
      | (.inl y1) => some (.inl y1)
      | (.inr y2) => some (.inr y2)
    )
    )
   : Option (Unit ⊕ Int)).bind fun o_17 => match o_17 with
    | (.inl _) =>
      some (.inl (IntKind.i64.wrap (i1 + 1)))
    | (.inr y3) => some (.inr (.inr y3))
  )
  )
  (
  some (.inr (.inl ()))
  )
noncomputable def m_cocketref02_Good (k1 : Int) (t1 : (List Rule)) : Option Int :=
 cond ((decide (k1 < 1)) || (decide (4 < k1)))
  (
  some 2
  )
  (
  cond (decide (24 < (t1.length : Int)))
   (
   some 3
   )
   (
   (
   (
    (
    (iter (m_cocketref02_Good_l1 k1 t1) 0).bind fun x_13 => match x_13 with
      | (.inl y4) => some (.inl y4)
      | (.inr y5) => some (.inr y5)
    )
    : Option (Unit ⊕ Int)).bind fun o_7 => match o_7 with
     | (.inl _) =>
       some 0
     | (.inr y6) => some y6
   )
   )
  )
noncomputable def m_cocketref02_all (t1 : (List Rule)) : Option Int :=
 guardO (0 ≤ (t1.length : Int)) <|
 some (IntKind.i64.wrap ((IntKind.i64.wrap (1 * (2 ^ (min ((t1.length : Int)).toNat 64)))) - 1))
noncomputable def m_cocketref02_put_l1 (l1 : (List Int)) (n1 : Int) : (Bool × Int × (List Int)) → Option ((Bool × Int × (List Int)) ⊕ (Bool × (List Int))) := fun (done2, i1, L2) =>
 cond (decide (i1 < (l1.length : Int)))
  (
  (
   ((cond (!done2)
    (
     (idx l1 i1).bind fun e1 =>
     some (decide (n1 ≤ e1))
    )
    (some false)
   ) : Option Bool).bind fun b1 =>
   cond b1
    (
    (idx l1 i1).bind fun e2 =>
    cond (decide (n1 < e2))
     (
     guardO (L2.length + [n1].length ≤ 4294967296) <|
     some (true, (L2 ++ [n1]))
     )
     (
     some (true, L2)
     )
    )
    (
    some (done2, L2)
    )
   : Option (Bool × (List Int))).bind fun (done3, L3) =>
  (idx l1 i1).bind fun e3 =>
  guardO (L3.length + [e3].length ≤ 4294967296) <|
  some (.inl (done3, (IntKind.i64.wrap (i1 + 1)), (L3 ++ [e3])))
  )
  (
  some (.inr (done2, L2))
  )
noncomputable def m_cocketref02_put (l1 : (List Int)) (n1 : Int) : Option (List Int) :=
 (
  (iter (m_cocketref02_put_l1 l1 n1) (false, 0, [])).bind fun x_7 =>
  some x_7
  : Option (Bool × (List Int))).bind fun (done1, L1) =>
 (
  cond (!done1)
   (
   guardO (L1.length + [n1].length ≤ 4294967296) <|
   some (L1 ++ [n1])
   )
   (
   some L1
   )
  : Option (List Int)).bind fun L4 =>
 some L4
noncomputable def m_cocketref02_cuts_l1 (t1 : (List Rule)) (mark1 : Int) (set1 : Int) : ((List Int) × Int) → Option (((List Int) × Int) ⊕ (List Int)) := fun (out2, i1) =>
 cond (decide (i1 < (t1.length : Int)))
  (
  (
   guardO (0 ≤ i1) <|
   cond (decide (((set1.fdiv (2 ^ (min (i1).toNat 64))).tmod 2) = 1))
    (
    (
     (idx t1 i1).bind fun e1 =>
     (idx e1.Bands mark1).bind fun e2 =>
     cond (decide (0 < e2.Lo))
      (
      (idx t1 i1).bind fun e3 =>
      (idx e3.Bands mark1).bind fun e4 =>
      (m_cocketref02_put out2 e4.Lo).bind fun r1 =>
      some r1
      )
      (
      some out2
      )
     : Option (List Int)).bind fun out4 =>
    (idx t1 i1).bind fun e5 =>
    (idx e5.Bands mark1).bind fun e6 =>
    (m_cocketref02_put out4 e6.Hi).bind fun r2 =>
    some r2
    )
    (
    some out2
    )
   : Option (List Int)).bind fun out3 =>
  some (.inl (out3, (IntKind.i64.wrap (i1 + 1))))
  )
  (
  some (.inr out2)
  )
noncomputable def m_cocketref02_cuts (t1 : (List Rule)) (mark1 : Int) (set1 : Int) : Option (List Int) :=
 (
  (iter (m_cocketref02_cuts_l1 t1 mark1 set1) ([1000], 0)).bind fun x_7 =>
  some x_7
  : Option (List Int)).bind fun out1 =>
 some out1
noncomputable def m_cocketref02_Pieces_l1 (k1 : Int) (t1 : (List Rule)) (most1 : Int) : (Int × Int) → Option ((Int × Int) ⊕ Int) := fun (out2, m1) =>
 cond ((decide (m1 < k1)) && (decide (out2 < most1)))
  (
  (m_cocketref02_all t1).bind fun r2 =>
  (m_cocketref02_cuts t1 m1 r2).bind fun r3 =>
  some (.inl ((IntKind.i64.wrap (out2 * (r3.length : Int))), (IntKind.i64.wrap (m1 + 1))))
  )
  (
  some (.inr out2)
  )
noncomputable def m_cocketref02_Pieces (k1 : Int) (t1 : (List Rule)) (most1 : Int) : Option Int :=
 (m_cocketref02_Good k1 t1).bind fun r1 =>
 cond (decide (¬r1 = 0))
  (
  some 0
  )
  (
  (
   (iter (m_cocketref02_Pieces_l1 k1 t1 most1) (1, 0)).bind fun x_10 =>
   some x_10
   : Option Int).bind fun out1 =>
  some out1
  )
noncomputable def m_cocketlaw02_few_l1 (t1 : (List Rule)) : Int → Option (Int ⊕ (Unit ⊕ Bool)) := fun i1 =>
 cond (decide (i1 < (t1.length : Int)))
  (
  ((cond (decide (40 ≤ i1))
   (some true)
   (
    (idx t1 i1).bind fun e1 =>
    some (decide (20 < (e1.Bands.length : Int)))
   )
  ) : Option Bool).bind fun b1 =>
  cond b1
   (
   some (.inr (.inr false))
   )
   (
   some (.inl (IntKind.i64.wrap (i1 + 1)))
   )
  )
  (
  some (.inr (.inl ()))
  )
noncomputable def m_cocketlaw02_few (k1 : Int) (t1 : (List Rule)) : Option Bool :=
 (
 (
  (
  (iter (m_cocketlaw02_few_l1 t1) 0).bind fun x_7 => match x_7 with
    | (.inl y1) => some (.inl y1)
    | (.inr y2) => some (.inr y2)
  )
  : Option (Unit ⊕ Bool)).bind fun o_1 => match o_1 with
   | (.inl _) =>
     (m_cocketref02_Pieces k1 t1 30000).bind fun r1 =>
     some (decide (r1 < 30000))
   | (.inr y3) => some y3
 )
noncomputable def m_cocketlaw02_three : Option (List Rule) :=
 some [(⟨[(⟨0, 10⟩ : Band)], 1⟩ : Rule), (⟨[(⟨5, 20⟩ : Band)], 2⟩ : Rule), (⟨[(⟨0, 20⟩ : Band)], 3⟩ : Rule)]
noncomputable def m_tariff_marks (k1 : Int) : Option Bool :=
 some ((decide (1 ≤ k1)) && (decide (k1 ≤ 4)))
noncomputable def m_tariff_fine_1 (b1 : Band) : Option Bool :=
 some (((decide (b1.Lo < 0)) || (decide (b1.Hi ≤ b1.Lo))) || (decide (1000 < b1.Hi)))
noncomputable def m_slices_IndexFunc_113_f103_l1 (s1 : (List Band)) : Int → Option (Int ⊕ (Unit ⊕ Int)) := fun v1 =>
 cond (decide (v1 < (s1.length : Int)))
  (
  (idx s1 v1).bind fun e1 =>
  (m_tariff_fine_1 e1).bind fun r1 =>
  cond r1
   (
   some (.inr (.inr v1))
   )
   (
   some (.inl (IntKind.i64.wrap (v1 + 1)))
   )
  )
  (
  some (.inr (.inl ()))
  )
noncomputable def m_slices_IndexFunc_113_f103 (s1 : (List Band)) : Option Int :=
 (
 (
  (
  (iter (m_slices_IndexFunc_113_f103_l1 s1) 0).bind fun x_7 => match x_7 with
    | (.inl y1) => some (.inl y1)
    | (.inr y2) => some (.inr y2)
  )
  : Option (Unit ⊕ Int)).bind fun o_1 => match o_1 with
   | (.inl _) =>
     some (-1)
   | (.inr y3) => some y3
 )
noncomputable def m_slices_ContainsFunc_104_f103 (s1 : (List Band)) : Option Bool :=
 (m_slices_IndexFunc_113_f103 s1).bind fun r1 =>
 some (decide (0 ≤ r1))
noncomputable def m_tariff_fine (k1 : Int) (r1 : Rule) : Option Bool :=
 ((cond (((decide ((r1.Bands.length : Int) = k1)) && (decide (0 ≤ r1.Code))) && (decide (r1.Code ≤ 99)))
  (
   (m_slices_ContainsFunc_104_f103 r1.Bands).bind fun r2 =>
   some (!r2)
  )
  (some false)
 ) : Option Bool).bind fun b1 =>
 some b1
noncomputable def m_tariff_checked_1_c (r1 : Rule) (k1 : Int) : Option Bool :=
 (m_tariff_fine k1 r1).bind fun r2 =>
 some (!r2)
noncomputable def m_slices_IndexFunc_99_f77_l1 (s1 : (List Rule)) (f1 : Int) : Int → Option (Int ⊕ (Unit ⊕ Int)) := fun v1 =>
 cond (decide (v1 < (s1.length : Int)))
  (
  (idx s1 v1).bind fun e1 =>
  (m_tariff_checked_1_c e1 f1).bind fun r1 =>
  cond r1
   (
   some (.inr (.inr v1))
   )
   (
   some (.inl (IntKind.i64.wrap (v1 + 1)))
   )
  )
  (
  some (.inr (.inl ()))
  )
noncomputable def m_slices_IndexFunc_99_f77 (s1 : (List Rule)) (f1 : Int) : Option Int :=
 (
 (
  (
  (iter (m_slices_IndexFunc_99_f77_l1 s1 f1) 0).bind fun x_7 => match x_7 with
    | (.inl y1) => some (.inl y1)
    | (.inr y2) => some (.inr y2)
  )
  : Option (Unit ⊕ Int)).bind fun o_1 => match o_1 with
   | (.inl _) =>
     some (-1)
   | (.inr y3) => some y3
 )
noncomputable def m_slices_ContainsFunc_76_f77 (s1 : (List Rule)) (f1 : Int) : Option Bool :=
 (m_slices_IndexFunc_99_f77 s1 f1).bind fun r1 =>
 some (decide (0 ≤ r1))
noncomputable def m_tariff_checked_l1 (k1 : Int) (ts1 : (List (List Rule))) : Int → Option (Int ⊕ (Unit ⊕ Int)) := fun v1 =>
 cond (decide (v1 < (ts1.length : Int)))
  (
  (idx ts1 v1).bind fun e1 =>
  cond (decide (24 < (e1.length : Int)))
   (
   some (.inr (.inr 3))
   )
   (
   (m_slices_ContainsFunc_76_f77 e1 k1).bind fun r2 =>
   cond r2
    (
    some (.inr (.inr 2))
    )
    (
    some (.inl (IntKind.i64.wrap (v1 + 1)))
    )
   )
  )
  (
  some (.inr (.inl ()))
  )
noncomputable def m_tariff_checked (k1 : Int) (ts1 : (List (List Rule))) : Option Int :=
 (m_tariff_marks k1).bind fun r1 =>
 cond (!r1)
  (
  some 2
  )
  (
  (
  (
   (
   (iter (m_tariff_checked_l1 k1 ts1) 0).bind fun x_10 => match x_10 with
     | (.inl y1) => some (.inl y1)
     | (.inr y2) => some (.inr y2)
   )
   : Option (Unit ⊕ Int)).bind fun o_4 => match o_4 with
    | (.inl _) =>
      some 0
    | (.inr y3) => some y3
  )
  )
noncomputable def m_tariff_all (t1 : (List Rule)) : Option Int :=
 guardO (0 ≤ (t1.length : Int)) <|
 some (IntKind.u32.wrap ((IntKind.u32.wrap (1 * (2 ^ (min ((t1.length : Int)).toNat 32)))) - 1))
noncomputable def m_tariff_cuts_l2 (mark1 : Int) (e1 : (List Rule)) : (Int × (List Int)) → Option ((Int × (List Int)) ⊕ (List Int)) := fun (v2, L4) =>
 cond (decide (v2 < (e1.length : Int)))
  (
  (idx e1 v2).bind fun e2 =>
  (idx e2.Bands mark1).bind fun e3 =>
  guardO (L4.length + [e3.Lo, e3.Hi].length ≤ 4294967296) <|
  some (.inl ((IntKind.i64.wrap (v2 + 1)), (L4 ++ [e3.Lo, e3.Hi])))
  )
  (
  some (.inr L4)
  )
noncomputable def m_tariff_cuts_l1 (mark1 : Int) (ts1 : (List (List Rule))) : (Int × (List Int)) → Option ((Int × (List Int)) ⊕ (List Int)) := fun (v1, L2) =>
 cond (decide (v1 < (ts1.length : Int)))
  (
  (
   (idx ts1 v1).bind fun e1 =>
   (iter (m_tariff_cuts_l2 mark1 e1) (0, L2)).bind fun x_21 =>
   some x_21
   : Option (List Int)).bind fun L3 =>
  some (.inl ((IntKind.i64.wrap (v1 + 1)), L3))
  )
  (
  some (.inr L2)
  )
noncomputable def m_tariff_cuts (mark1 : Int) (ts1 : (List (List Rule))) : Option (List Int) :=
 (
  (iter (m_tariff_cuts_l1 mark1 ts1) (0, [1000])).bind fun x_7 =>
  some x_7
  : Option (List Int)).bind fun L1 =>
 guardO (L1.length ≤ 4294967296) <|
 guardO ((sortI L1).length ≤ 4294967296) <|
 (
  (idx (List.take ((compactI (sortI L1)).length) (compactP (sortI L1))) 0).bind fun e4 =>
  cond (decide (e4 = 0))
   (
   guardO (0 ≤ 1 ∧ 1 ≤ ((List.take ((compactI (sortI L1)).length) (compactP (sortI L1))).length : Int) ∧ ((List.take ((compactI (sortI L1)).length) (compactP (sortI L1))).length : Int) ≤ ((List.take ((compactI (sortI L1)).length) (compactP (sortI L1))).length : Int)) <|
   some (((List.take ((compactI (sortI L1)).length) (compactP (sortI L1))).drop 1).take ((((List.take ((compactI (sortI L1)).length) (compactP (sortI L1))).length : Int) : Int) - 1).toNat)
   )
   (
   some (List.take ((compactI (sortI L1)).length) (compactP (sortI L1)))
   )
  : Option (List Int)).bind fun out1 =>
 some out1
noncomputable def m_tariff_fits_l1 (t1 : (List Rule)) (mark1 : Int) (value1 : Int) : (Int × Int) → Option ((Int × Int) ⊕ Int) := fun (out2, v1) =>
 cond (decide (v1 < (t1.length : Int)))
  (
  (
   (idx t1 v1).bind fun e1 =>
   (idx e1.Bands mark1).bind fun e2 =>
   cond ((decide (e2.Lo ≤ value1)) && (decide (value1 < e2.Hi)))
    (
    guardO (0 ≤ v1) <|
    some (IntKind.u32.wrap ↑(BitVec.ofInt IntKind.u32.bits out2 ||| BitVec.ofInt IntKind.u32.bits (IntKind.u32.wrap (1 * (2 ^ (min (v1).toNat 32))))).toNat)
    )
    (
    some out2
    )
   : Option Int).bind fun out3 =>
  some (.inl (out3, (IntKind.i64.wrap (v1 + 1))))
  )
  (
  some (.inr out2)
  )
noncomputable def m_tariff_fits (t1 : (List Rule)) (mark1 : Int) (value1 : Int) : Option Int :=
 (
  (iter (m_tariff_fits_l1 t1 mark1 value1) (0, 0)).bind fun x_7 =>
  some x_7
  : Option Int).bind fun out1 =>
 some out1
noncomputable def m_tariff_set_first_l1 (s1 : Int) : Int → Option (Int ⊕ (Unit ⊕ Int)) := fun v1 =>
 cond (decide (v1 < 24))
  (
  guardO (0 ≤ v1) <|
  cond (decide (¬(IntKind.u32.wrap ↑(BitVec.ofInt IntKind.u32.bits s1 &&& BitVec.ofInt IntKind.u32.bits (IntKind.u32.wrap (1 * (2 ^ (min (v1).toNat 32))))).toNat) = 0))
   (
   some (.inr (.inr v1))
   )
   (
   some (.inl (IntKind.i64.wrap (v1 + 1)))
   )
  )
  (
  some (.inr (.inl ()))
  )
noncomputable def m_tariff_set_first (s1 : Int) : Option Int :=
 (
 (
  (
  (iter (m_tariff_set_first_l1 s1) 0).bind fun x_7 => match x_7 with
    | (.inl y1) => some (.inl y1)
    | (.inr y2) => some (.inr y2)
  )
  : Option (Unit ⊕ Int)).bind fun o_1 => match o_1 with
   | (.inl _) =>
     some (-1)
   | (.inr y3) => some y3
 )
noncomputable def m_tariff_counts_1_h_l2 (from1 : Int) (e1 : Int) (r3 : ((List Int) × (List (Arr3_Int × (List Int))))) : (Int × (List Int)) → Option ((Int × (List Int)) ⊕ ((List (Arr3_Int × (List Int))) × (List Int))) := fun (v2, L5) =>
 cond (decide (v2 < (r3.1.length : Int)))
  (
  (idx r3.1 v2).bind fun e2 =>
  (idx L5 v2).bind fun e3 =>
  some (.inl ((IntKind.i64.wrap (v2 + 1)), (L5.set (v2).toNat (IntKind.i64.wrap (e3 + (IntKind.i64.wrap (e2 * (IntKind.i64.wrap (e1 - from1)))))))))
  )
  (
  some (.inr (r3.2, L5))
  )
noncomputable def m_tariff_counts_1_h_l1 (mark1 : Int) (a1 : Int) (o1 : (List Rule)) (o2 : Int) (self : ((List Rule) → Int → (List (Arr3_Int × (List Int))) → Int → Int → Option ((List Int) × (List (Arr3_Int × (List Int)))))) (r1 : (List Int)) : (Int × Int × (List (Arr3_Int × (List Int))) × (List Int)) → Option ((Int × Int × (List (Arr3_Int × (List Int))) × (List Int)) ⊕ ((List (Arr3_Int × (List Int))) × (List Int))) := fun (from1, v1, M2, L2) =>
 cond (decide (v1 < (r1.length : Int)))
  (
  (
   (idx r1 v1).bind fun e1 =>
   (m_tariff_fits o1 mark1 from1).bind fun r2 =>
   (
    cond (decide ((IntKind.i64.wrap (mark1 + 1)) < o2))
     (
     (self o1 o2 M2 (IntKind.i64.wrap (mark1 + 1)) (IntKind.u32.wrap ↑(BitVec.ofInt IntKind.u32.bits a1 &&& BitVec.ofInt IntKind.u32.bits r2).toNat)).bind fun r3 =>
     (iter (m_tariff_counts_1_h_l2 from1 e1 r3) (0, L2)).bind fun x_30 =>
     some x_30
     )
     (
     (m_tariff_set_first (IntKind.u32.wrap ↑(BitVec.ofInt IntKind.u32.bits a1 &&& BitVec.ofInt IntKind.u32.bits r2).toNat)).bind fun r4 =>
     cond (decide (r4 < 0))
      (
      (idx L2 (o1.length : Int)).bind fun e4 =>
      some (M2, (L2.set ((o1.length : Int)).toNat (IntKind.i64.wrap (e4 + (IntKind.i64.wrap (e1 - from1))))))
      )
      (
      (idx L2 r4).bind fun e5 =>
      some (M2, (L2.set (r4).toNat (IntKind.i64.wrap (e5 + (IntKind.i64.wrap (e1 - from1))))))
      )
     )
    : Option ((List (Arr3_Int × (List Int))) × (List Int))).bind fun (M4, L4) =>
   some (e1, M4, L4)
   : Option (Int × (List (Arr3_Int × (List Int))) × (List Int))).bind fun (from2, M3, L3) =>
  some (.inl (from2, (IntKind.i64.wrap (v1 + 1)), M3, L3))
  )
  (
  some (.inr (M2, L2))
  )
noncomputable def m_tariff_counts_1_h_b (self : ((List Rule) → Int → (List (Arr3_Int × (List Int))) → Int → Int → Option ((List Int) × (List (Arr3_Int × (List Int)))))) (o1 : (List Rule)) (o2 : Int) (m1 : (List (Arr3_Int × (List Int)))) (mark1 : Int) (a1 : Int) : Option ((List Int) × (List (Arr3_Int × (List Int)))) :=
 cond ((mget (⟨mark1, (IntKind.i64.wrap a1), 0⟩ : Arr3_Int) m1).isSome)
  (
  some (((mget (⟨mark1, (IntKind.i64.wrap a1), 0⟩ : Arr3_Int) m1).getD []), m1)
  )
  (
  guardO (0 ≤ (IntKind.i64.wrap ((o1.length : Int) + 1)) ∧ (IntKind.i64.wrap ((o1.length : Int) + 1)) ≤ 4294967296) <|
  (
   (m_tariff_cuts mark1 [o1]).bind fun r1 =>
   (iter (m_tariff_counts_1_h_l1 mark1 a1 o1 o2 self r1) (0, 0, m1, (List.replicate ((IntKind.i64.wrap ((o1.length : Int) + 1))).toNat (0 : Int)))).bind fun x_11 =>
   some x_11
   : Option ((List (Arr3_Int × (List Int))) × (List Int))).bind fun (M1, L1) =>
  some (L1, (mset (⟨mark1, (IntKind.i64.wrap a1), 0⟩ : Arr3_Int) L1 M1))
  )
noncomputable def m_tariff_counts_1_h : Nat → (List Rule) → Int → (List (Arr3_Int × (List Int))) → Int → Int → Option ((List Int) × (List (Arr3_Int × (List Int))))
  | 0 => fun _ _ _ _ _ => none
  | n + 1 => m_tariff_counts_1_h_b (m_tariff_counts_1_h n)
noncomputable def m_tariff_counts (k1 : Int) (t1 : (List Rule)) : Option (List Int) :=
 (m_tariff_all t1).bind fun r1 =>
 (m_tariff_counts_1_h 100 t1 k1 [] 0 r1).bind fun r2 =>
 (cloneO r2.1).bind fun r3 =>
 some r3
noncomputable def m_tariff_Dead_l1 (t1 : (List Rule)) (r2 : (List Int)) : (Int × (List Int)) → Option ((Int × (List Int)) ⊕ (List Int)) := fun (v1, L2) =>
 cond (decide (v1 < ((r2.take (((t1.length : Int) : Int) - 0).toNat).length : Int)))
  (
  (
   (idx (r2.take (((t1.length : Int) : Int) - 0).toNat) v1).bind fun e1 =>
   cond (decide (e1 = 0))
    (
    guardO (L2.length + [v1].length ≤ 4294967296) <|
    some (L2 ++ [v1])
    )
    (
    some L2
    )
   : Option (List Int)).bind fun L3 =>
  some (.inl ((IntKind.i64.wrap (v1 + 1)), L3))
  )
  (
  some (.inr L2)
  )
noncomputable def m_tariff_Dead (k1 : Int) (t1 : (List Rule)) : Option ((List Int) × Int) :=
 (m_tariff_checked k1 [t1]).bind fun r1 =>
 cond (decide (¬r1 = 0))
  (
  some ([], r1)
  )
  (
  (
   (m_tariff_counts k1 t1).bind fun r2 =>
   guardO (0 ≤ 0 ∧ 0 ≤ (t1.length : Int) ∧ (t1.length : Int) ≤ (r2.length : Int)) <|
   (iter (m_tariff_Dead_l1 t1 r2) (0, [])).bind fun x_12 =>
   some x_12
   : Option (List Int)).bind fun L1 =>
  some (L1, 0)
  )
noncomputable def m_tariff_Gap_1 (i1 : Int) (v1 : Int) : Option Bool :=
 some (decide (i1 < 0))
noncomputable def m_tariff_walker_find_1_h_f50_l1 (mark1 : Int) (a1 : Int) (b1 : Int) (o1 : Walker) (self : (Walker → (List (Arr3_Int × Bool)) → Int → Int → Int → Option ((List Int) × Bool × (List (Arr3_Int × Bool))))) (r4 : (List Int)) : (Int × Int × (List (Arr3_Int × Bool))) → Option ((Int × Int × (List (Arr3_Int × Bool))) ⊕ ((List (Arr3_Int × Bool)) ⊕ ((List Int) × Bool × (List (Arr3_Int × Bool))))) := fun (from1, v1, M2) =>
 cond (decide (v1 < (r4.length : Int)))
  (
  (idx r4 v1).bind fun e1 =>
  (m_tariff_fits o1.s mark1 from1).bind fun r5 =>
  (m_tariff_fits o1.t mark1 from1).bind fun r6 =>
  (self o1 M2 (IntKind.i64.wrap (mark1 + 1)) (IntKind.u32.wrap ↑(BitVec.ofInt IntKind.u32.bits a1 &&& BitVec.ofInt IntKind.u32.bits r5).toNat) (IntKind.u32.wrap ↑(BitVec.ofInt IntKind.u32.bits b1 &&& BitVec.ofInt IntKind.u32.bits r6).toNat)).bind fun r7 =>
  cond r7.2.1
   (
   guardO (1 + r7.1.length ≤ 4294967296) <|
   some (.inr (.inr (([from1] ++ r7.1), true, r7.2.2)))
   )
   (
   some (.inl (e1, (IntKind.i64.wrap (v1 + 1)), r7.2.2))
   )
  )
  (
  some (.inr (.inl M2))
  )
noncomputable def m_tariff_walker_find_1_h_f50_b (self : (Walker → (List (Arr3_Int × Bool)) → Int → Int → Int → Option ((List Int) × Bool × (List (Arr3_Int × Bool))))) (o1 : Walker) (m1 : (List (Arr3_Int × Bool))) (mark1 : Int) (a1 : Int) (b1 : Int) : Option ((List Int) × Bool × (List (Arr3_Int × Bool))) :=
 cond (decide (mark1 = o1.k))
  (
  (m_tariff_set_first a1).bind fun r1 =>
  (m_tariff_set_first b1).bind fun r2 =>
  (m_tariff_Gap_1 r1 r2).bind fun r3 =>
  some ([], r3, m1)
  )
  (
  cond ((mget (⟨mark1, (IntKind.i64.wrap a1), (IntKind.i64.wrap b1)⟩ : Arr3_Int) m1).getD false)
   (
   some ([], false, m1)
   )
   (
   (
   (
    (m_tariff_cuts mark1 [o1.s, o1.t]).bind fun r4 =>
    (
    (iter (m_tariff_walker_find_1_h_f50_l1 mark1 a1 b1 o1 self r4) (0, 0, m1)).bind fun x_15 => match x_15 with
      | (.inl y1) => some (.inl y1)
      | (.inr y2) => some (.inr y2)
    )
    : Option ((List (Arr3_Int × Bool)) ⊕ ((List Int) × Bool × (List (Arr3_Int × Bool))))).bind fun o_8 => match o_8 with
     | (.inl M1) =>
       some ([], false, (mset (⟨mark1, (IntKind.i64.wrap a1), (IntKind.i64.wrap b1)⟩ : Arr3_Int) true M1))
     | (.inr y3) => some y3
   )
   )
  )
noncomputable def m_tariff_walker_find_1_h_f50 : Nat → Walker → (List (Arr3_Int × Bool)) → Int → Int → Int → Option ((List Int) × Bool × (List (Arr3_Int × Bool)))
  | 0 => fun _ _ _ _ _ => none
  | n + 1 => m_tariff_walker_find_1_h_f50_b (m_tariff_walker_find_1_h_f50 n)
noncomputable def m_tariff_walker_find_f50 (w1 : Walker) : Option ((List Int) × Bool) :=
 (m_tariff_all w1.s).bind fun r1 =>
 (m_tariff_all w1.t).bind fun r2 =>
 (m_tariff_walker_find_1_h_f50 100 w1 [] 0 r1 r2).bind fun r3 =>
 some (r3.1, r3.2.1)
noncomputable def m_tariff_found (l1 : (List Int)) (ok1 : Bool) : Option ((List Int) × Int) :=
 cond (!ok1)
  (
  some ([], 10)
  )
  (
  some (l1, 0)
  )
noncomputable def m_tariff_Gap (k1 : Int) (t1 : (List Rule)) : Option ((List Int) × Int) :=
 (m_tariff_checked k1 [t1]).bind fun r1 =>
 cond (decide (¬r1 = 0))
  (
  some ([], r1)
  )
  (
  (m_tariff_walker_find_f50 (⟨k1, t1, []⟩ : Walker)).bind fun r2 =>
  (m_tariff_found r2.1 r2.2).bind fun r3 =>
  some (r3.1, r3.2)
  )
noncomputable def m_tariff_builder_leaf_h (o1 : Builder) (a1 : Int) : Option (Int × Builder) :=
 (m_tariff_set_first a1).bind fun r1 =>
 cond (decide (r1 < 0))
  (
  some ((-1), o1)
  )
  (
  (idx o1.rules r1).bind fun e1 =>
  some ((IntKind.i64.wrap ((-2) - e1.Code)), o1)
  )
noncomputable def m_tariff_merged_l1 (ends1 : (List Int)) (to1 : (List Int)) : (Int × (List Int) × (List Int)) → Option ((Int × (List Int) × (List Int)) ⊕ ((List Int) × (List Int))) := fun (v1, L3, L4) =>
 cond (decide (v1 < (to1.length : Int)))
  (
  (
   (idx to1 v1).bind fun e1 =>
   ((cond (decide (0 < (L4.length : Int)))
    (
     (idx L4 (IntKind.i64.wrap ((L4.length : Int) - 1))).bind fun e2 =>
     some (decide (e2 = e1))
    )
    (some false)
   ) : Option Bool).bind fun b1 =>
   cond b1
    (
    (idx ends1 v1).bind fun e3 =>
    (idx L3 (IntKind.i64.wrap ((L4.length : Int) - 1))).bind fun e4 =>
    some ((L3.set ((IntKind.i64.wrap ((L4.length : Int) - 1))).toNat e3), L4)
    )
    (
    (idx ends1 v1).bind fun e5 =>
    guardO (L3.length + [e5].length ≤ 4294967296) <|
    guardO (L4.length + [e1].length ≤ 4294967296) <|
    some ((L3 ++ [e5]), (L4 ++ [e1]))
    )
   : Option ((List Int) × (List Int))).bind fun (L5, L6) =>
  some (.inl ((IntKind.i64.wrap (v1 + 1)), L5, L6))
  )
  (
  some (.inr (L3, L4))
  )
noncomputable def m_tariff_merged (ends1 : (List Int)) (to1 : (List Int)) : Option ((List Int) × (List Int)) :=
 (
  (iter (m_tariff_merged_l1 ends1 to1) (0, [], [])).bind fun x_7 =>
  some x_7
  : Option ((List Int) × (List Int))).bind fun (L1, L2) =>
 some (L1, L2)
noncomputable def m_tariff_builder_node_h_l2 (e1 : (List Int)) : (Int × Bool × (List Int)) → Option ((Int × Bool × (List Int)) ⊕ (Bool × (List Int))) := fun (v2, c5, L5) =>
 cond (decide (v2 < (e1.length : Int)))
  (
  (idx e1 v2).bind fun e2 =>
  (itoaO e2).bind fun r1 =>
  guardO (bsz r1 + bsz (⟨#[32]⟩ : ByteArray) ≤ 4294967296) <|
  (bWrite (⟨c5, L5⟩ : StringsBuilder) (r1 ++ (⟨#[32]⟩ : ByteArray))).bind fun r2 =>
  some (.inl ((IntKind.i64.wrap (v2 + 1)), true, r2.buf))
  )
  (
  some (.inr (c5, L5))
  )
noncomputable def m_tariff_builder_node_h_l1 (x1 : Node) : (Int × Bool × (List Int)) → Option ((Int × Bool × (List Int)) ⊕ (Bool × (List Int))) := fun (v1, c2, L2) =>
 cond (decide (v1 < ([[x1.Mark], x1.Cuts, x1.To].length : Int)))
  (
  (
   (idx [[x1.Mark], x1.Cuts, x1.To] v1).bind fun e1 =>
   (
    (iter (m_tariff_builder_node_h_l2 e1) (0, c2, L2)).bind fun x_23 =>
    some x_23
    : Option (Bool × (List Int))).bind fun (c4, L4) =>
   (bWriteByte (⟨c4, L4⟩ : StringsBuilder) 124).bind fun r3 =>
   some (true, r3.buf)
   : Option (Bool × (List Int))).bind fun (c3, L3) =>
  some (.inl ((IntKind.i64.wrap (v1 + 1)), c3, L3))
  )
  (
  some (.inr (c2, L2))
  )
noncomputable def m_tariff_builder_node_h (o1 : Builder) (x1 : Node) : Option (Int × Builder) :=
 (
  (iter (m_tariff_builder_node_h_l1 x1) (0, false, [])).bind fun x_7 =>
  some x_7
  : Option (Bool × (List Int))).bind fun (c1, L1) =>
 (bString (⟨c1, L1⟩ : StringsBuilder)).bind fun r4 =>
 (
  cond (!((mget r4 o1.same).isSome))
   (
   (bString (⟨c1, L1⟩ : StringsBuilder)).bind fun r5 =>
   guardO (o1.nodes.length + [x1].length ≤ 4294967296) <|
   some ((o1.nodes.length : Int), (mset r5 (o1.nodes.length : Int) o1.same), (o1.nodes ++ [x1]))
   )
   (
   some (((mget r4 o1.same).getD 0), o1.same, o1.nodes)
   )
  : Option (Int × (List (ByteArray × Int)) × (List Node))).bind fun (n1, M1, L6) =>
 some (n1, (⟨o1.k, o1.rules, o1.known, M1, L6⟩ : Builder))
noncomputable def m_tariff_builder_at_h_l1 (mark1 : Int) (a1 : Int) (self : (Builder → Int → Int → Option (Int × Builder))) (r2 : (List Int)) : (Int × Int × Int × (List Rule) × (List (Arr3_Int × Int)) × (List (ByteArray × Int)) × (List Node) × (List Int)) → Option ((Int × Int × Int × (List Rule) × (List (Arr3_Int × Int)) × (List (ByteArray × Int)) × (List Node) × (List Int)) ⊕ (Int × (List Rule) × (List (Arr3_Int × Int)) × (List (ByteArray × Int)) × (List Node) × (List Int))) := fun (from1, v1, c3, c4, M3, M4, L3, L4) =>
 cond (decide (v1 < (r2.length : Int)))
  (
  (idx r2 v1).bind fun e1 =>
  (m_tariff_fits c4 mark1 from1).bind fun r3 =>
  (self (⟨c3, c4, M3, M4, L3⟩ : Builder) (IntKind.i64.wrap (mark1 + 1)) (IntKind.u32.wrap ↑(BitVec.ofInt IntKind.u32.bits a1 &&& BitVec.ofInt IntKind.u32.bits r3).toNat)).bind fun r4 =>
  guardO (L4.length + [r4.1].length ≤ 4294967296) <|
  some (.inl (e1, (IntKind.i64.wrap (v1 + 1)), r4.2.k, r4.2.rules, r4.2.known, r4.2.same, r4.2.nodes, (L4 ++ [r4.1])))
  )
  (
  some (.inr (c3, c4, M3, M4, L3, L4))
  )
noncomputable def m_tariff_builder_at_h_b (self : (Builder → Int → Int → Option (Int × Builder))) (o1 : Builder) (mark1 : Int) (a1 : Int) : Option (Int × Builder) :=
 cond (decide (mark1 = o1.k))
  (
  (m_tariff_builder_leaf_h o1 a1).bind fun r1 =>
  some (r1.1, r1.2)
  )
  (
  cond ((mget (⟨mark1, (IntKind.i64.wrap a1), 0⟩ : Arr3_Int) o1.known).isSome)
   (
   some (((mget (⟨mark1, (IntKind.i64.wrap a1), 0⟩ : Arr3_Int) o1.known).getD 0), o1)
   )
   (
   (m_tariff_cuts mark1 [o1.rules]).bind fun r2 =>
   (
    (iter (m_tariff_builder_at_h_l1 mark1 a1 self r2) (0, 0, o1.k, o1.rules, o1.known, o1.same, o1.nodes, [])).bind fun x_13 =>
    some x_13
    : Option (Int × (List Rule) × (List (Arr3_Int × Int)) × (List (ByteArray × Int)) × (List Node) × (List Int))).bind fun (c1, c2, M1, M2, L1, L2) =>
   (m_tariff_merged r2 L2).bind fun r5 =>
   (idx r5.2 0).bind fun e2 =>
   (
    cond (decide (1 < (r5.2.length : Int)))
     (
     (m_tariff_builder_node_h (⟨c1, c2, M1, M2, L1⟩ : Builder) (⟨mark1, r5.1, r5.2⟩ : Node)).bind fun r6 =>
     some (r6.1, r6.2.k, r6.2.rules, r6.2.known, r6.2.same, r6.2.nodes)
     )
     (
     some (e2, c1, c2, M1, M2, L1)
     )
    : Option (Int × Int × (List Rule) × (List (Arr3_Int × Int)) × (List (ByteArray × Int)) × (List Node))).bind fun (n1, c5, c6, M5, M6, L5) =>
   some (n1, (⟨c5, c6, (mset (⟨mark1, (IntKind.i64.wrap a1), 0⟩ : Arr3_Int) n1 M5), M6, L5⟩ : Builder))
   )
  )
noncomputable def m_tariff_builder_at_h : Nat → Builder → Int → Int → Option (Int × Builder)
  | 0 => fun _ _ _ => none
  | n + 1 => m_tariff_builder_at_h_b (m_tariff_builder_at_h n)
noncomputable def m_tariff_builder_ordered_1_h_l1 (l1 : (List Node)) (o1 : Builder) (self : ((List (Int × Int)) → (List Node) → Builder → Int → Option (Int × (List (Int × Int)) × (List Node)))) (e2 : Node) : (Int × (List (Int × Int)) × (List Node)) → Option ((Int × (List (Int × Int)) × (List Node)) ⊕ ((List (Int × Int)) × (List Node))) := fun (v1, M2, L2) =>
 cond (decide (v1 < (e2.To.length : Int)))
  (
  (idx e2.To v1).bind fun e3 =>
  (self M2 L2 o1 e3).bind fun r2 =>
  (idx r2.2.2 (l1.length : Int)).bind fun e4 =>
  guardO (e4.To.length + [r2.1].length ≤ 4294967296) <|
  some (.inl ((IntKind.i64.wrap (v1 + 1)), r2.2.1, (r2.2.2.set (((l1.length : Int)).toNat) (⟨e4.Mark, e4.Cuts, (e4.To ++ [r2.1])⟩ : Node))))
  )
  (
  some (.inr (M2, L2))
  )
noncomputable def m_tariff_builder_ordered_1_h_b (self : ((List (Int × Int)) → (List Node) → Builder → Int → Option (Int × (List (Int × Int)) × (List Node)))) (m1 : (List (Int × Int))) (l1 : (List Node)) (o1 : Builder) (n1 : Int) : Option (Int × (List (Int × Int)) × (List Node)) :=
 cond (decide (n1 < 0))
  (
  some (n1, m1, l1)
  )
  (
  cond ((mget n1 m1).isSome)
   (
   some (((mget n1 m1).getD 0), m1, l1)
   )
   (
   (idx o1.nodes n1).bind fun e1 =>
   (cloneO e1.Cuts).bind fun r1 =>
   guardO (l1.length + 1 ≤ 4294967296) <|
   (
    (idx o1.nodes n1).bind fun e2 =>
    (iter (m_tariff_builder_ordered_1_h_l1 l1 o1 self e2) (0, (mset n1 (l1.length : Int) m1), (l1 ++ [(⟨e1.Mark, r1, []⟩ : Node)]))).bind fun x_21 =>
    some x_21
    : Option ((List (Int × Int)) × (List Node))).bind fun (M1, L1) =>
   some ((l1.length : Int), M1, L1)
   )
  )
noncomputable def m_tariff_builder_ordered_1_h : Nat → (List (Int × Int)) → (List Node) → Builder → Int → Option (Int × (List (Int × Int)) × (List Node))
  | 0 => fun _ _ _ _ => none
  | n + 1 => m_tariff_builder_ordered_1_h_b (m_tariff_builder_ordered_1_h n)
noncomputable def m_tariff_builder_ordered_h (o1 : Builder) (top1 : Int) : Option ((List Node) × Builder) :=
 (m_tariff_builder_ordered_1_h 100 [] [] o1 top1).bind fun r1 =>
 some (r1.2.2, o1)
noncomputable def m_tariff_Diagram (k1 : Int) (t1 : (List Rule)) : Option ((List Node) × Int) :=
 (m_tariff_checked k1 [t1]).bind fun r1 =>
 cond (decide (¬r1 = 0))
  (
  some ([], r1)
  )
  (
  (m_tariff_all t1).bind fun r2 =>
  (m_tariff_builder_at_h 100 (⟨k1, t1, [], [], []⟩ : Builder) 0 r2).bind fun r3 =>
  cond (decide (r3.1 < 0))
   (
   some ([(⟨0, [1000], [r3.1]⟩ : Node)], 0)
   )
   (
   (m_tariff_builder_ordered_h r3.2 r3.1).bind fun r4 =>
   some (r4.1, 0)
   )
  )
noncomputable def m_cocketlaw02_same_l1 (a1 : (List Int)) (b1 : (List Int)) : Int → Option (Int ⊕ (Unit ⊕ Bool)) := fun i1 =>
 cond (decide (i1 < (a1.length : Int)))
  (
  (idx a1 i1).bind fun e1 =>
  (idx b1 i1).bind fun e2 =>
  cond (decide (¬e1 = e2))
   (
   some (.inr (.inr false))
   )
   (
   some (.inl (IntKind.i64.wrap (i1 + 1)))
   )
  )
  (
  some (.inr (.inl ()))
  )
noncomputable def m_cocketlaw02_same (a1 : (List Int)) (b1 : (List Int)) : Option Bool :=
 cond (decide (¬(a1.length : Int) = (b1.length : Int)))
  (
  some false
  )
  (
  (
  (
   (
   (iter (m_cocketlaw02_same_l1 a1 b1) 0).bind fun x_9 => match x_9 with
     | (.inl y1) => some (.inl y1)
     | (.inr y2) => some (.inr y2)
   )
   : Option (Unit ⊕ Bool)).bind fun o_3 => match o_3 with
    | (.inl _) =>
      some true
    | (.inr y3) => some y3
  )
  )
noncomputable def m_cocketlaw02_alive : Option Bool :=
 (m_cocketlaw02_three).bind fun r1 =>
 (m_tariff_Dead 1 r1).bind fun r2 =>
 (m_cocketlaw02_three).bind fun r3 =>
 (m_tariff_Gap 1 r3).bind fun r4 =>
 (m_cocketlaw02_three).bind fun r5 =>
 (m_tariff_Diagram 1 r5).bind fun r6 =>
 ((cond (decide (r2.2 = 0))
  (
   (m_cocketlaw02_same r2.1 [2]).bind fun r7 =>
   some r7
  )
  (some false)
 ) : Option Bool).bind fun b1 =>
 ((cond (b1 && (decide (r4.2 = 0)))
  (
   (m_cocketlaw02_same r4.1 [20]).bind fun r8 =>
   some r8
  )
  (some false)
 ) : Option Bool).bind fun b2 =>
 ((cond ((b2 && (decide (r6.2 = 0))) && (decide ((r6.1.length : Int) = 1)))
  (
   (idx r6.1 0).bind fun e1 =>
   (m_cocketlaw02_same e1.To [(-3), (-4), (-1)]).bind fun r9 =>
   some r9
  )
  (some false)
 ) : Option Bool).bind fun b3 =>
 some b3
noncomputable def m_cocketlaw02_copied_l1 (t1 : (List Rule)) : (Int × (List Rule)) → Option ((Int × (List Rule)) ⊕ (List Rule)) := fun (i1, L2) =>
 cond (decide (i1 < (t1.length : Int)))
  (
  (idx t1 i1).bind fun e1 =>
  (idx t1 i1).bind fun e2 =>
  guardO (0 + e2.Bands.length ≤ 4294967296) <|
  guardO (L2.length + [(⟨e2.Bands, e1.Code⟩ : Rule)].length ≤ 4294967296) <|
  some (.inl ((IntKind.i64.wrap (i1 + 1)), (L2 ++ [(⟨e2.Bands, e1.Code⟩ : Rule)])))
  )
  (
  some (.inr L2)
  )
noncomputable def m_cocketlaw02_copied (t1 : (List Rule)) : Option (List Rule) :=
 (
  (iter (m_cocketlaw02_copied_l1 t1) (0, [])).bind fun x_7 =>
  some x_7
  : Option (List Rule)).bind fun L1 =>
 some L1
noncomputable def m_tariff_Counts (k1 : Int) (t1 : (List Rule)) : Option ((List Int) × Int × Int) :=
 (m_tariff_checked k1 [t1]).bind fun r1 =>
 cond (decide (¬r1 = 0))
  (
  some ([], 0, r1)
  )
  (
  (m_tariff_counts k1 t1).bind fun r2 =>
  guardO (0 ≤ 0 ∧ 0 ≤ (t1.length : Int) ∧ (t1.length : Int) ≤ (r2.length : Int)) <|
  (idx r2 (t1.length : Int)).bind fun e1 =>
  some ((r2.take (((t1.length : Int) : Int) - 0).toNat), e1, 0)
  )
noncomputable def m_tariff_differ_1 (t1 : (List Rule)) (i1 : Int) : Option Int :=
 cond (decide (i1 < 0))
  (
  some (-1)
  )
  (
  (idx t1 i1).bind fun e1 =>
  some e1.Code
  )
noncomputable def m_tariff_differ_2_f94 (i1 : Int) (j1 : Int) (k1 : (List Rule)) (k2 : (List Rule)) : Option Bool :=
 (m_tariff_differ_1 k1 i1).bind fun r1 =>
 (m_tariff_differ_1 k2 j1).bind fun r2 =>
 some (decide (¬r1 = r2))
noncomputable def m_tariff_walker_find_1_h_f95_f94_l1 (mark1 : Int) (a1 : Int) (b1 : Int) (o1 : Walker) (o2 : (List Rule)) (o3 : (List Rule)) (self : (Walker → (List Rule) → (List Rule) → (List (Arr3_Int × Bool)) → Int → Int → Int → Option ((List Int) × Bool × (List (Arr3_Int × Bool))))) (r4 : (List Int)) : (Int × Int × (List (Arr3_Int × Bool))) → Option ((Int × Int × (List (Arr3_Int × Bool))) ⊕ ((List (Arr3_Int × Bool)) ⊕ ((List Int) × Bool × (List (Arr3_Int × Bool))))) := fun (from1, v1, M2) =>
 cond (decide (v1 < (r4.length : Int)))
  (
  (idx r4 v1).bind fun e1 =>
  (m_tariff_fits o1.s mark1 from1).bind fun r5 =>
  (m_tariff_fits o1.t mark1 from1).bind fun r6 =>
  (self o1 o2 o3 M2 (IntKind.i64.wrap (mark1 + 1)) (IntKind.u32.wrap ↑(BitVec.ofInt IntKind.u32.bits a1 &&& BitVec.ofInt IntKind.u32.bits r5).toNat) (IntKind.u32.wrap ↑(BitVec.ofInt IntKind.u32.bits b1 &&& BitVec.ofInt IntKind.u32.bits r6).toNat)).bind fun r7 =>
  cond r7.2.1
   (
   guardO (1 + r7.1.length ≤ 4294967296) <|
   some (.inr (.inr (([from1] ++ r7.1), true, r7.2.2)))
   )
   (
   some (.inl (e1, (IntKind.i64.wrap (v1 + 1)), r7.2.2))
   )
  )
  (
  some (.inr (.inl M2))
  )
noncomputable def m_tariff_walker_find_1_h_f95_f94_b (self : (Walker → (List Rule) → (List Rule) → (List (Arr3_Int × Bool)) → Int → Int → Int → Option ((List Int) × Bool × (List (Arr3_Int × Bool))))) (o1 : Walker) (o2 : (List Rule)) (o3 : (List Rule)) (m1 : (List (Arr3_Int × Bool))) (mark1 : Int) (a1 : Int) (b1 : Int) : Option ((List Int) × Bool × (List (Arr3_Int × Bool))) :=
 cond (decide (mark1 = o1.k))
  (
  (m_tariff_set_first a1).bind fun r1 =>
  (m_tariff_set_first b1).bind fun r2 =>
  (m_tariff_differ_2_f94 r1 r2 o2 o3).bind fun r3 =>
  some ([], r3, m1)
  )
  (
  cond ((mget (⟨mark1, (IntKind.i64.wrap a1), (IntKind.i64.wrap b1)⟩ : Arr3_Int) m1).getD false)
   (
   some ([], false, m1)
   )
   (
   (
   (
    (m_tariff_cuts mark1 [o1.s, o1.t]).bind fun r4 =>
    (
    (iter (m_tariff_walker_find_1_h_f95_f94_l1 mark1 a1 b1 o1 o2 o3 self r4) (0, 0, m1)).bind fun x_15 => match x_15 with
      | (.inl y1) => some (.inl y1)
      | (.inr y2) => some (.inr y2)
    )
    : Option ((List (Arr3_Int × Bool)) ⊕ ((List Int) × Bool × (List (Arr3_Int × Bool))))).bind fun o_8 => match o_8 with
     | (.inl M1) =>
       some ([], false, (mset (⟨mark1, (IntKind.i64.wrap a1), (IntKind.i64.wrap b1)⟩ : Arr3_Int) true M1))
     | (.inr y3) => some y3
   )
   )
  )
noncomputable def m_tariff_walker_find_1_h_f95_f94 : Nat → Walker → (List Rule) → (List Rule) → (List (Arr3_Int × Bool)) → Int → Int → Int → Option ((List Int) × Bool × (List (Arr3_Int × Bool)))
  | 0 => fun _ _ _ _ _ _ _ => none
  | n + 1 => m_tariff_walker_find_1_h_f95_f94_b (m_tariff_walker_find_1_h_f95_f94 n)
noncomputable def m_tariff_walker_find_f95_f94 (w1 : Walker) (wanted1 : (List Rule)) (wanted2 : (List Rule)) : Option ((List Int) × Bool) :=
 (m_tariff_all w1.s).bind fun r1 =>
 (m_tariff_all w1.t).bind fun r2 =>
 (m_tariff_walker_find_1_h_f95_f94 100 w1 wanted1 wanted2 [] 0 r1 r2).bind fun r3 =>
 some (r3.1, r3.2.1)
noncomputable def m_tariff_differ (k1 : Int) (s1 : (List Rule)) (t1 : (List Rule)) : Option ((List Int) × Bool) :=
 (m_tariff_walker_find_f95_f94 (⟨k1, s1, t1⟩ : Walker) s1 t1).bind fun r1 =>
 some (r1.1, r1.2)
noncomputable def m_tariff_Differ (k1 : Int) (s1 : (List Rule)) (t1 : (List Rule)) : Option ((List Int) × Int) :=
 (m_tariff_checked k1 [s1, t1]).bind fun r1 =>
 cond (decide (¬r1 = 0))
  (
  some ([], r1)
  )
  (
  (m_tariff_differ k1 s1 t1).bind fun r2 =>
  (m_tariff_found r2.1 r2.2).bind fun r3 =>
  some (r3.1, r3.2)
  )
noncomputable def m_tariff_thing_1 (n1 : Int) : Option Bool :=
 some ((decide (n1 < 0)) || (decide (999 < n1)))
noncomputable def m_slices_IndexFunc_70_f98_l1 (s1 : (List Int)) : Int → Option (Int ⊕ (Unit ⊕ Int)) := fun v1 =>
 cond (decide (v1 < (s1.length : Int)))
  (
  (idx s1 v1).bind fun e1 =>
  (m_tariff_thing_1 e1).bind fun r1 =>
  cond r1
   (
   some (.inr (.inr v1))
   )
   (
   some (.inl (IntKind.i64.wrap (v1 + 1)))
   )
  )
  (
  some (.inr (.inl ()))
  )
noncomputable def m_slices_IndexFunc_70_f98 (s1 : (List Int)) : Option Int :=
 (
 (
  (
  (iter (m_slices_IndexFunc_70_f98_l1 s1) 0).bind fun x_7 => match x_7 with
    | (.inl y1) => some (.inl y1)
    | (.inr y2) => some (.inr y2)
  )
  : Option (Unit ⊕ Int)).bind fun o_1 => match o_1 with
   | (.inl _) =>
     some (-1)
   | (.inr y3) => some y3
 )
noncomputable def m_slices_ContainsFunc_97_f98 (s1 : (List Int)) : Option Bool :=
 (m_slices_IndexFunc_70_f98 s1).bind fun r1 =>
 some (decide (0 ≤ r1))
noncomputable def m_tariff_thing (k1 : Int) (l1 : (List Int)) : Option Bool :=
 ((cond (decide ((l1.length : Int) = k1))
  (
   (m_slices_ContainsFunc_97_f98 l1).bind fun r1 =>
   some (!r1)
  )
  (some false)
 ) : Option Bool).bind fun b1 =>
 some b1
noncomputable def m_tariff_decides_1_c_l1 (r1 : Rule) (k1 : (List Int)) : Int → Option (Int ⊕ (Unit ⊕ Bool)) := fun v1 =>
 cond (decide (v1 < (r1.Bands.length : Int)))
  (
  (idx r1.Bands v1).bind fun e1 =>
  (idx k1 v1).bind fun e2 =>
  cond (decide (e2 < e1.Lo))
   (
   some (.inr (.inr false))
   )
   (
   cond (decide (e1.Hi ≤ e2))
    (
    some (.inr (.inr false))
    )
    (
    some (.inl (IntKind.i64.wrap (v1 + 1)))
    )
   )
  )
  (
  some (.inr (.inl ()))
  )
noncomputable def m_tariff_decides_1_c (r1 : Rule) (k1 : (List Int)) : Option Bool :=
 (
 (
  (
  (iter (m_tariff_decides_1_c_l1 r1 k1) 0).bind fun x_7 => match x_7 with
    | (.inl y1) => some (.inl y1)
    | (.inr y2) => some (.inr y2)
  )
  : Option (Unit ⊕ Bool)).bind fun o_1 => match o_1 with
   | (.inl _) =>
     some true
   | (.inr y3) => some y3
 )
noncomputable def m_slices_IndexFunc_99_f100_l1 (s1 : (List Rule)) (f1 : (List Int)) : Int → Option (Int ⊕ (Unit ⊕ Int)) := fun v1 =>
 cond (decide (v1 < (s1.length : Int)))
  (
  (idx s1 v1).bind fun e1 =>
  (m_tariff_decides_1_c e1 f1).bind fun r1 =>
  cond r1
   (
   some (.inr (.inr v1))
   )
   (
   some (.inl (IntKind.i64.wrap (v1 + 1)))
   )
  )
  (
  some (.inr (.inl ()))
  )
noncomputable def m_slices_IndexFunc_99_f100 (s1 : (List Rule)) (f1 : (List Int)) : Option Int :=
 (
 (
  (
  (iter (m_slices_IndexFunc_99_f100_l1 s1 f1) 0).bind fun x_7 => match x_7 with
    | (.inl y1) => some (.inl y1)
    | (.inr y2) => some (.inr y2)
  )
  : Option (Unit ⊕ Int)).bind fun o_1 => match o_1 with
   | (.inl _) =>
     some (-1)
   | (.inr y3) => some y3
 )
noncomputable def m_tariff_decides (t1 : (List Rule)) (l1 : (List Int)) : Option Int :=
 (m_slices_IndexFunc_99_f100 t1 l1).bind fun r1 =>
 some r1
noncomputable def m_tariff_Code (k1 : Int) (t1 : (List Rule)) (l1 : (List Int)) : Option (Int × Int × Int) :=
 (m_tariff_checked k1 [t1]).bind fun r1 =>
 cond (decide (¬r1 = 0))
  (
  some (0, 0, r1)
  )
  (
  (m_tariff_thing k1 l1).bind fun r2 =>
  cond (!r2)
   (
   some (0, 0, 2)
   )
   (
   (m_tariff_decides t1 l1).bind fun r3 =>
   cond (decide (r3 < 0))
    (
    some (0, 0, 6)
    )
    (
    (idx t1 r3).bind fun e1 =>
    some (e1.Code, r3, 0)
    )
   )
  )
noncomputable def m_cocketlaw02_TariffBehind (k1 : Int) (t1 : (List Rule)) (more1 : Rule) (pick1 : Int) : Option Bool :=
 (m_cocketlaw02_few k1 t1).bind fun r1 =>
 cond ((!r1) || (decide (20 < (more1.Bands.length : Int))))
  (
  (m_cocketlaw02_alive).bind fun r2 =>
  some r2
  )
  (
  (m_tariff_Dead k1 t1).bind fun r3 =>
  cond (decide (¬r3.2 = 0))
   (
   ((cond (decide ((r3.1.length : Int) = 0))
    (
     (m_cocketlaw02_alive).bind fun r4 =>
     some r4
    )
    (some false)
   ) : Option Bool).bind fun b1 =>
   some b1
   )
   (
   (
   (
    cond (decide (0 < (r3.1.length : Int)))
     (
     guardO ((r3.1.length : Int) ≠ 0) <|
     (idx r3.1 ((IntKind.i64.wrap pick1).tmod (r3.1.length : Int))).bind fun e1 =>
     cond ((decide (e1 < 0)) || (decide ((t1.length : Int) ≤ e1)))
      (
      some (.inr false)
      )
      (
      (m_cocketlaw02_copied t1).bind fun r5 =>
      guardO (0 ≤ 0 ∧ 0 ≤ e1 ∧ e1 ≤ (r5.length : Int)) <|
      (m_cocketlaw02_copied t1).bind fun r6 =>
      guardO (0 ≤ (IntKind.i64.wrap (e1 + 1)) ∧ (IntKind.i64.wrap (e1 + 1)) ≤ (r6.length : Int) ∧ (r6.length : Int) ≤ (r6.length : Int)) <|
      guardO (((e1 : Int) - 0).toNat + ((r6.drop ((IntKind.i64.wrap (e1 + 1))).toNat).take (((r6.length : Int) : Int) - (IntKind.i64.wrap (e1 + 1))).toNat).length ≤ r5.length) <|
      (m_tariff_Differ k1 t1 (List.take (((e1 : Int) - 0).toNat + ((r6.drop ((IntKind.i64.wrap (e1 + 1))).toNat).take (((r6.length : Int) : Int) - (IntKind.i64.wrap (e1 + 1))).toNat).length) (List.take (((e1 : Int) - 0).toNat) r5 ++ ((r6.drop ((IntKind.i64.wrap (e1 + 1))).toNat).take (((r6.length : Int) : Int) - (IntKind.i64.wrap (e1 + 1))).toNat) ++ List.drop (((e1 : Int) - 0).toNat + ((r6.drop ((IntKind.i64.wrap (e1 + 1))).toNat).take (((r6.length : Int) : Int) - (IntKind.i64.wrap (e1 + 1))).toNat).length) r5))).bind fun r7 =>
      cond (decide (¬r7.2 = 10))
       (
       some (.inr false)
       )
       (
       some (.inl ())
       )
      )
     )
     (
     some (.inl ())
     )
    : Option (Unit ⊕ Bool)).bind fun o_13 => match o_13 with
     | (.inl _) =>
       (m_cocketlaw02_copied t1).bind fun r8 =>
       guardO (r8.length + [more1].length ≤ 4294967296) <|
       (m_tariff_Differ k1 t1 (r8 ++ [more1])).bind fun r9 =>
       cond (decide (¬r9.2 = 0))
        (
        (m_cocketlaw02_alive).bind fun r10 =>
        some r10
        )
        (
        (m_tariff_Code k1 t1 r9.1).bind fun r11 =>
        (m_tariff_Code k1 (r8 ++ [more1]) r9.1).bind fun r12 =>
        ((cond ((((decide (r11.2.2 = 6)) && (decide (r12.2.2 = 0))) && (decide (r12.1 = more1.Code))) && (decide (r12.2.1 = (t1.length : Int))))
         (
          (m_cocketlaw02_alive).bind fun r13 =>
          some r13
         )
         (some false)
        ) : Option Bool).bind fun b2 =>
        some b2
        )
     | (.inr y1) => some y1
   )
   )
  )
end Go.Pv

namespace Go.Pv.Tryd
open Go.Proofs
noncomputable def T1 : Ty := (tyOf Tryd.prog 1).getD ⟨.invalid, 0, 0, none⟩
@[go_sem] theorem ty1 : tyOf Tryd.prog 1 = some T1 := by kernel_rfl
@[go_sem] theorem T1_desc : T1.desc = .func #[] #[] false := by kernel_rfl
@[go_sem] theorem T1_size : T1.size = 1 := by kernel_rfl
@[go_sem] theorem T1_bytes : T1.bytes = 8 := by kernel_rfl
@[go_sem] theorem T1_zero : zeroPV T1 = some (.d .nilfunc) := by kernel_rfl
@[go_sem] theorem T1_ok : zeroOk T1 = true := by kernel_rfl
noncomputable def T2 : Ty := (tyOf Tryd.prog 2).getD ⟨.invalid, 0, 0, none⟩
@[go_sem] theorem ty2 : tyOf Tryd.prog 2 = some T2 := by kernel_rfl
@[go_sem] theorem T2_desc : T2.desc = .int .i64 := by kernel_rfl
@[go_sem] theorem T2_size : T2.size = 1 := by kernel_rfl
@[go_sem] theorem T2_bytes : T2.bytes = 8 := by kernel_rfl
@[go_sem] theorem T2_zero : zeroPV T2 = some (.d (.int .i64 0)) := by kernel_rfl
@[go_sem] theorem T2_ok : zeroOk T2 = true := by kernel_rfl
noncomputable def T3 : Ty := (tyOf Tryd.prog 3).getD ⟨.invalid, 0, 0, none⟩
@[go_sem] theorem ty3 : tyOf Tryd.prog 3 = some T3 := by kernel_rfl
@[go_sem] theorem T3_desc : T3.desc = .int .i64 := by kernel_rfl
@[go_sem] theorem T3_size : T3.size = 1 := by kernel_rfl
@[go_sem] theorem T3_bytes : T3.bytes = 8 := by kernel_rfl
@[go_sem] theorem T3_zero : zeroPV T3 = some (.d (.int .i64 0)) := by kernel_rfl
@[go_sem] theorem T3_ok : zeroOk T3 = true := by kernel_rfl
noncomputable def T4 : Ty := (tyOf Tryd.prog 4).getD ⟨.invalid, 0, 0, none⟩
@[go_sem] theorem ty4 : tyOf Tryd.prog 4 = some T4 := by kernel_rfl
@[go_sem] theorem T4_desc : T4.desc = .bool := by kernel_rfl
@[go_sem] theorem T4_size : T4.size = 1 := by kernel_rfl
@[go_sem] theorem T4_bytes : T4.bytes = 1 := by kernel_rfl
@[go_sem] theorem T4_zero : zeroPV T4 = some (.d (.bool false)) := by kernel_rfl
@[go_sem] theorem T4_ok : zeroOk T4 = true := by kernel_rfl
noncomputable def T5 : Ty := (tyOf Tryd.prog 5).getD ⟨.invalid, 0, 0, none⟩
@[go_sem] theorem ty5 : tyOf Tryd.prog 5 = some T5 := by kernel_rfl
@[go_sem] theorem T5_desc : T5.desc = .int .u8 := by kernel_rfl
@[go_sem] theorem T5_size : T5.size = 1 := by kernel_rfl
@[go_sem] theorem T5_bytes : T5.bytes = 1 := by kernel_rfl
@[go_sem] theorem T5_zero : zeroPV T5 = some (.d (.int .u8 0)) := by kernel_rfl
@[go_sem] theorem T5_ok : zeroOk T5 = true := by kernel_rfl
noncomputable def T9 : Ty := (tyOf Tryd.prog 9).getD ⟨.invalid, 0, 0, none⟩
@[go_sem] theorem ty9 : tyOf Tryd.prog 9 = some T9 := by kernel_rfl
@[go_sem] theorem T9_desc : T9.desc = .string := by kernel_rfl
@[go_sem] theorem T9_size : T9.size = 1 := by kernel_rfl
@[go_sem] theorem T9_bytes : T9.bytes = 16 := by kernel_rfl
@[go_sem] theorem T9_zero : zeroPV T9 = some (.d (.str ⟨#[]⟩)) := by kernel_rfl
@[go_sem] theorem T9_ok : zeroOk T9 = true := by kernel_rfl
noncomputable def T12 : Ty := (tyOf Tryd.prog 12).getD ⟨.invalid, 0, 0, none⟩
@[go_sem] theorem ty12 : tyOf Tryd.prog 12 = some T12 := by kernel_rfl
@[go_sem] theorem T12_desc : T12.desc = .int .u64 := by kernel_rfl
@[go_sem] theorem T12_size : T12.size = 1 := by kernel_rfl
@[go_sem] theorem T12_bytes : T12.bytes = 8 := by kernel_rfl
@[go_sem] theorem T12_zero : zeroPV T12 = some (.d (.int .u64 0)) := by kernel_rfl
@[go_sem] theorem T12_ok : zeroOk T12 = true := by kernel_rfl
noncomputable def T13 : Ty := (tyOf Tryd.prog 13).getD ⟨.invalid, 0, 0, none⟩
@[go_sem] theorem ty13 : tyOf Tryd.prog 13 = some T13 := by kernel_rfl
noncomputable def fs13 : Array Field := match T13.desc with | .struct fs => fs | _ => #[]
@[go_sem] theorem T13_desc : T13.desc = .struct fs13 := by kernel_rfl
noncomputable def fs13_0 : Field := fs13.getD 0 default
@[go_sem] theorem fs13_at0 : fs13[0]? = some fs13_0 := by kernel_rfl
@[go_sem] theorem fs13_0_type : fs13_0.type = 9 := by kernel_rfl
@[go_sem] theorem fs13_0_off : fs13_0.offset = 0 := by kernel_rfl
@[go_sem] theorem fo13_0 : fieldOf Tryd.prog 13 0 = some (0, 1) := by kernel_rfl
noncomputable def fs13_1 : Field := fs13.getD 1 default
@[go_sem] theorem fs13_at1 : fs13[1]? = some fs13_1 := by kernel_rfl
@[go_sem] theorem fs13_1_type : fs13_1.type = 12 := by kernel_rfl
@[go_sem] theorem fs13_1_off : fs13_1.offset = 1 := by kernel_rfl
@[go_sem] theorem fo13_1 : fieldOf Tryd.prog 13 1 = some (1, 1) := by kernel_rfl
@[go_sem] theorem pl13 : placesOf Tryd.prog fs13.toList = some [(0, 1), (1, 1)] := by kernel_rfl
@[go_sem] theorem T13_size : T13.size = 2 := by kernel_rfl
@[go_sem] theorem T13_bytes : T13.bytes = 24 := by kernel_rfl
-- zero of 13: strings or floats
@[go_sem] theorem T13_ok : zeroOk T13 = true := by kernel_rfl
noncomputable def T21 : Ty := (tyOf Tryd.prog 21).getD ⟨.invalid, 0, 0, none⟩
@[go_sem] theorem ty21 : tyOf Tryd.prog 21 = some T21 := by kernel_rfl
@[go_sem] theorem T21_desc : T21.desc = .int .i32 := by kernel_rfl
@[go_sem] theorem T21_size : T21.size = 1 := by kernel_rfl
@[go_sem] theorem T21_bytes : T21.bytes = 4 := by kernel_rfl
@[go_sem] theorem T21_zero : zeroPV T21 = some (.d (.int .i32 0)) := by kernel_rfl
@[go_sem] theorem T21_ok : zeroOk T21 = true := by kernel_rfl
noncomputable def T22 : Ty := (tyOf Tryd.prog 22).getD ⟨.invalid, 0, 0, none⟩
@[go_sem] theorem ty22 : tyOf Tryd.prog 22 = some T22 := by kernel_rfl
@[go_sem] theorem T22_desc : T22.desc = .slice 56 := by kernel_rfl
@[go_sem] theorem es22 : elemSize Tryd.prog 22 = some 2 := by kernel_rfl
@[go_sem] theorem T22_size : T22.size = 1 := by kernel_rfl
@[go_sem] theorem T22_bytes : T22.bytes = 24 := by kernel_rfl
@[go_sem] theorem T22_zero : zeroPV T22 = some (.d .nilslice) := by kernel_rfl
@[go_sem] theorem T22_ok : zeroOk T22 = true := by kernel_rfl
noncomputable def T23 : Ty := (tyOf Tryd.prog 23).getD ⟨.invalid, 0, 0, none⟩
@[go_sem] theorem ty23 : tyOf Tryd.prog 23 = some T23 := by kernel_rfl
@[go_sem] theorem T23_desc : T23.desc = .func #[3, 22] #[4] false := by kernel_rfl
@[go_sem] theorem T23_size : T23.size = 1 := by kernel_rfl
@[go_sem] theorem T23_bytes : T23.bytes = 8 := by kernel_rfl
@[go_sem] theorem T23_zero : zeroPV T23 = some (.d .nilfunc) := by kernel_rfl
@[go_sem] theorem T23_ok : zeroOk T23 = true := by kernel_rfl
noncomputable def T24 : Ty := (tyOf Tryd.prog 24).getD ⟨.invalid, 0, 0, none⟩
@[go_sem] theorem ty24 : tyOf Tryd.prog 24 = some T24 := by kernel_rfl
@[go_sem] theorem T24_desc : T24.desc = .func #[] #[4] false := by kernel_rfl
@[go_sem] theorem T24_size : T24.size = 1 := by kernel_rfl
@[go_sem] theorem T24_bytes : T24.bytes = 8 := by kernel_rfl
@[go_sem] theorem T24_zero : zeroPV T24 = some (.d .nilfunc) := by kernel_rfl
@[go_sem] theorem T24_ok : zeroOk T24 = true := by kernel_rfl
noncomputable def T25 : Ty := (tyOf Tryd.prog 25).getD ⟨.invalid, 0, 0, none⟩
@[go_sem] theorem ty25 : tyOf Tryd.prog 25 = some T25 := by kernel_rfl
@[go_sem] theorem T25_desc : T25.desc = .func #[22] #[22] false := by kernel_rfl
@[go_sem] theorem T25_size : T25.size = 1 := by kernel_rfl
@[go_sem] theorem T25_bytes : T25.bytes = 8 := by kernel_rfl
@[go_sem] theorem T25_zero : zeroPV T25 = some (.d .nilfunc) := by kernel_rfl
@[go_sem] theorem T25_ok : zeroOk T25 = true := by kernel_rfl
noncomputable def T26 : Ty := (tyOf Tryd.prog 26).getD ⟨.invalid, 0, 0, none⟩
@[go_sem] theorem ty26 : tyOf Tryd.prog 26 = some T26 := by kernel_rfl
@[go_sem] theorem T26_desc : T26.desc = .slice 3 := by kernel_rfl
@[go_sem] theorem es26 : elemSize Tryd.prog 26 = some 1 := by kernel_rfl
@[go_sem] theorem T26_size : T26.size = 1 := by kernel_rfl
@[go_sem] theorem T26_bytes : T26.bytes = 24 := by kernel_rfl
@[go_sem] theorem T26_zero : zeroPV T26 = some (.d .nilslice) := by kernel_rfl
@[go_sem] theorem T26_ok : zeroOk T26 = true := by kernel_rfl
noncomputable def T27 : Ty := (tyOf Tryd.prog 27).getD ⟨.invalid, 0, 0, none⟩
@[go_sem] theorem ty27 : tyOf Tryd.prog 27 = some T27 := by kernel_rfl
@[go_sem] theorem T27_desc : T27.desc = .int .i64 := by kernel_rfl
@[go_sem] theorem T27_size : T27.size = 1 := by kernel_rfl
@[go_sem] theorem T27_bytes : T27.bytes = 8 := by kernel_rfl
@[go_sem] theorem T27_zero : zeroPV T27 = some (.d (.int .i64 0)) := by kernel_rfl
@[go_sem] theorem T27_ok : zeroOk T27 = true := by kernel_rfl
noncomputable def T29 : Ty := (tyOf Tryd.prog 29).getD ⟨.invalid, 0, 0, none⟩
@[go_sem] theorem ty29 : tyOf Tryd.prog 29 = some T29 := by kernel_rfl
@[go_sem] theorem T29_desc : T29.desc = .func #[3, 22] #[26, 27] false := by kernel_rfl
@[go_sem] theorem T29_size : T29.size = 1 := by kernel_rfl
@[go_sem] theorem T29_bytes : T29.bytes = 8 := by kernel_rfl
@[go_sem] theorem T29_zero : zeroPV T29 = some (.d .nilfunc) := by kernel_rfl
@[go_sem] theorem T29_ok : zeroOk T29 = true := by kernel_rfl
noncomputable def T30 : Ty := (tyOf Tryd.prog 30).getD ⟨.invalid, 0, 0, none⟩
@[go_sem] theorem ty30 : tyOf Tryd.prog 30 = some T30 := by kernel_rfl
@[go_sem] theorem T30_desc : T30.desc = .func #[26, 26] #[4] false := by kernel_rfl
@[go_sem] theorem T30_size : T30.size = 1 := by kernel_rfl
@[go_sem] theorem T30_bytes : T30.bytes = 8 := by kernel_rfl
@[go_sem] theorem T30_zero : zeroPV T30 = some (.d .nilfunc) := by kernel_rfl
@[go_sem] theorem T30_ok : zeroOk T30 = true := by kernel_rfl
noncomputable def T31 : Ty := (tyOf Tryd.prog 31).getD ⟨.invalid, 0, 0, none⟩
@[go_sem] theorem ty31 : tyOf Tryd.prog 31 = some T31 := by kernel_rfl
@[go_sem] theorem T31_desc : T31.desc = .func #[22, 22] #[4] false := by kernel_rfl
@[go_sem] theorem T31_size : T31.size = 1 := by kernel_rfl
@[go_sem] theorem T31_bytes : T31.bytes = 8 := by kernel_rfl
@[go_sem] theorem T31_zero : zeroPV T31 = some (.d .nilfunc) := by kernel_rfl
@[go_sem] theorem T31_ok : zeroOk T31 = true := by kernel_rfl
noncomputable def T32 : Ty := (tyOf Tryd.prog 32).getD ⟨.invalid, 0, 0, none⟩
@[go_sem] theorem ty32 : tyOf Tryd.prog 32 = some T32 := by kernel_rfl
@[go_sem] theorem T32_desc : T32.desc = .slice 37 := by kernel_rfl
@[go_sem] theorem es32 : elemSize Tryd.prog 32 = some 3 := by kernel_rfl
@[go_sem] theorem T32_size : T32.size = 1 := by kernel_rfl
@[go_sem] theorem T32_bytes : T32.bytes = 24 := by kernel_rfl
@[go_sem] theorem T32_zero : zeroPV T32 = some (.d .nilslice) := by kernel_rfl
@[go_sem] theorem T32_ok : zeroOk T32 = true := by kernel_rfl
noncomputable def T34 : Ty := (tyOf Tryd.prog 34).getD ⟨.invalid, 0, 0, none⟩
@[go_sem] theorem ty34 : tyOf Tryd.prog 34 = some T34 := by kernel_rfl
@[go_sem] theorem T34_desc : T34.desc = .func #[3, 22] #[32, 27] false := by kernel_rfl
@[go_sem] theorem T34_size : T34.size = 1 := by kernel_rfl
@[go_sem] theorem T34_bytes : T34.bytes = 8 := by kernel_rfl
@[go_sem] theorem T34_zero : zeroPV T34 = some (.d .nilfunc) := by kernel_rfl
@[go_sem] theorem T34_ok : zeroOk T34 = true := by kernel_rfl
noncomputable def T35 : Ty := (tyOf Tryd.prog 35).getD ⟨.invalid, 0, 0, none⟩
@[go_sem] theorem ty35 : tyOf Tryd.prog 35 = some T35 := by kernel_rfl
@[go_sem] theorem T35_desc : T35.desc = .func #[32, 32] #[4] false := by kernel_rfl
@[go_sem] theorem T35_size : T35.size = 1 := by kernel_rfl
@[go_sem] theorem T35_bytes : T35.bytes = 8 := by kernel_rfl
@[go_sem] theorem T35_zero : zeroPV T35 = some (.d .nilfunc) := by kernel_rfl
@[go_sem] theorem T35_ok : zeroOk T35 = true := by kernel_rfl
noncomputable def T36 : Ty := (tyOf Tryd.prog 36).getD ⟨.invalid, 0, 0, none⟩
@[go_sem] theorem ty36 : tyOf Tryd.prog 36 = some T36 := by kernel_rfl
noncomputable def fs36 : Array Field := match T36.desc with | .struct fs => fs | _ => #[]
@[go_sem] theorem T36_desc : T36.desc = .struct fs36 := by kernel_rfl
noncomputable def fs36_0 : Field := fs36.getD 0 default
@[go_sem] theorem fs36_at0 : fs36[0]? = some fs36_0 := by kernel_rfl
@[go_sem] theorem fs36_0_type : fs36_0.type = 3 := by kernel_rfl
@[go_sem] theorem fs36_0_off : fs36_0.offset = 0 := by kernel_rfl
@[go_sem] theorem fo36_0 : fieldOf Tryd.prog 36 0 = some (0, 1) := by kernel_rfl
noncomputable def fs36_1 : Field := fs36.getD 1 default
@[go_sem] theorem fs36_at1 : fs36[1]? = some fs36_1 := by kernel_rfl
@[go_sem] theorem fs36_1_type : fs36_1.type = 26 := by kernel_rfl
@[go_sem] theorem fs36_1_off : fs36_1.offset = 1 := by kernel_rfl
@[go_sem] theorem fo36_1 : fieldOf Tryd.prog 36 1 = some (1, 1) := by kernel_rfl
noncomputable def fs36_2 : Field := fs36.getD 2 default
@[go_sem] theorem fs36_at2 : fs36[2]? = some fs36_2 := by kernel_rfl
@[go_sem] theorem fs36_2_type : fs36_2.type = 26 := by kernel_rfl
@[go_sem] theorem fs36_2_off : fs36_2.offset = 2 := by kernel_rfl
@[go_sem] theorem fo36_2 : fieldOf Tryd.prog 36 2 = some (2, 1) := by kernel_rfl
@[go_sem] theorem pl36 : placesOf Tryd.prog fs36.toList = some [(0, 1), (1, 1), (2, 1)] := by kernel_rfl
@[go_sem] theorem T36_size : T36.size = 3 := by kernel_rfl
@[go_sem] theorem T36_bytes : T36.bytes = 56 := by kernel_rfl
@[go_sem] theorem T36_cells : zeroCells T36.zero = some [.d (.int .i64 0), .d .nilslice, .d .nilslice] := by kernel_rfl
@[go_sem] theorem T36_zero : zeroPV T36 = some (.d (.agg [(.int .i64 0), .nilslice, .nilslice])) := by kernel_rfl
@[go_sem] theorem T36_ok : zeroOk T36 = true := by kernel_rfl
noncomputable def T37 : Ty := (tyOf Tryd.prog 37).getD ⟨.invalid, 0, 0, none⟩
@[go_sem] theorem ty37 : tyOf Tryd.prog 37 = some T37 := by kernel_rfl
noncomputable def fs37 : Array Field := match T37.desc with | .struct fs => fs | _ => #[]
@[go_sem] theorem T37_desc : T37.desc = .struct fs37 := by kernel_rfl
noncomputable def fs37_0 : Field := fs37.getD 0 default
@[go_sem] theorem fs37_at0 : fs37[0]? = some fs37_0 := by kernel_rfl
@[go_sem] theorem fs37_0_type : fs37_0.type = 3 := by kernel_rfl
@[go_sem] theorem fs37_0_off : fs37_0.offset = 0 := by kernel_rfl
@[go_sem] theorem fo37_0 : fieldOf Tryd.prog 37 0 = some (0, 1) := by kernel_rfl
noncomputable def fs37_1 : Field := fs37.getD 1 default
@[go_sem] theorem fs37_at1 : fs37[1]? = some fs37_1 := by kernel_rfl
@[go_sem] theorem fs37_1_type : fs37_1.type = 26 := by kernel_rfl
@[go_sem] theorem fs37_1_off : fs37_1.offset = 1 := by kernel_rfl
@[go_sem] theorem fo37_1 : fieldOf Tryd.prog 37 1 = some (1, 1) := by kernel_rfl
noncomputable def fs37_2 : Field := fs37.getD 2 default
@[go_sem] theorem fs37_at2 : fs37[2]? = some fs37_2 := by kernel_rfl
@[go_sem] theorem fs37_2_type : fs37_2.type = 26 := by kernel_rfl
@[go_sem] theorem fs37_2_off : fs37_2.offset = 2 := by kernel_rfl
@[go_sem] theorem fo37_2 : fieldOf Tryd.prog 37 2 = some (2, 1) := by kernel_rfl
@[go_sem] theorem pl37 : placesOf Tryd.prog fs37.toList = some [(0, 1), (1, 1), (2, 1)] := by kernel_rfl
@[go_sem] theorem T37_size : T37.size = 3 := by kernel_rfl
@[go_sem] theorem T37_bytes : T37.bytes = 56 := by kernel_rfl
@[go_sem] theorem T37_cells : zeroCells T37.zero = some [.d (.int .i64 0), .d .nilslice, .d .nilslice] := by kernel_rfl
@[go_sem] theorem T37_zero : zeroPV T37 = some (.d (.agg [(.int .i64 0), .nilslice, .nilslice])) := by kernel_rfl
@[go_sem] theorem T37_ok : zeroOk T37 = true := by kernel_rfl
noncomputable def T39 : Ty := (tyOf Tryd.prog 39).getD ⟨.invalid, 0, 0, none⟩
@[go_sem] theorem ty39 : tyOf Tryd.prog 39 = some T39 := by kernel_rfl
@[go_sem] theorem T39_desc : T39.desc = .func #[3, 22] #[26, 3, 27] false := by kernel_rfl
@[go_sem] theorem T39_size : T39.size = 1 := by kernel_rfl
@[go_sem] theorem T39_bytes : T39.bytes = 8 := by kernel_rfl
@[go_sem] theorem T39_zero : zeroPV T39 = some (.d .nilfunc) := by kernel_rfl
@[go_sem] theorem T39_ok : zeroOk T39 = true := by kernel_rfl
noncomputable def T40 : Ty := (tyOf Tryd.prog 40).getD ⟨.invalid, 0, 0, none⟩
@[go_sem] theorem ty40 : tyOf Tryd.prog 40 = some T40 := by kernel_rfl
@[go_sem] theorem T40_desc : T40.desc = .func #[3, 22, 22] #[26, 27] false := by kernel_rfl
@[go_sem] theorem T40_size : T40.size = 1 := by kernel_rfl
@[go_sem] theorem T40_bytes : T40.bytes = 8 := by kernel_rfl
@[go_sem] theorem T40_zero : zeroPV T40 = some (.d .nilfunc) := by kernel_rfl
@[go_sem] theorem T40_ok : zeroOk T40 = true := by kernel_rfl
noncomputable def T41 : Ty := (tyOf Tryd.prog 41).getD ⟨.invalid, 0, 0, none⟩
@[go_sem] theorem ty41 : tyOf Tryd.prog 41 = some T41 := by kernel_rfl
@[go_sem] theorem T41_desc : T41.desc = .func #[3, 22, 22] #[4] false := by kernel_rfl
@[go_sem] theorem T41_size : T41.size = 1 := by kernel_rfl
@[go_sem] theorem T41_bytes : T41.bytes = 8 := by kernel_rfl
@[go_sem] theorem T41_zero : zeroPV T41 = some (.d .nilfunc) := by kernel_rfl
@[go_sem] theorem T41_ok : zeroOk T41 = true := by kernel_rfl
noncomputable def T42 : Ty := (tyOf Tryd.prog 42).getD ⟨.invalid, 0, 0, none⟩
@[go_sem] theorem ty42 : tyOf Tryd.prog 42 = some T42 := by kernel_rfl
@[go_sem] theorem T42_desc : T42.desc = .func #[3, 22, 3, 3] #[26, 27] false := by kernel_rfl
@[go_sem] theorem T42_size : T42.size = 1 := by kernel_rfl
@[go_sem] theorem T42_bytes : T42.bytes = 8 := by kernel_rfl
@[go_sem] theorem T42_zero : zeroPV T42 = some (.d .nilfunc) := by kernel_rfl
@[go_sem] theorem T42_ok : zeroOk T42 = true := by kernel_rfl
noncomputable def T43 : Ty := (tyOf Tryd.prog 43).getD ⟨.invalid, 0, 0, none⟩
@[go_sem] theorem ty43 : tyOf Tryd.prog 43 = some T43 := by kernel_rfl
@[go_sem] theorem T43_desc : T43.desc = .func #[3, 22, 3, 3] #[4] false := by kernel_rfl
@[go_sem] theorem T43_size : T43.size = 1 := by kernel_rfl
@[go_sem] theorem T43_bytes : T43.bytes = 8 := by kernel_rfl
@[go_sem] theorem T43_zero : zeroPV T43 = some (.d .nilfunc) := by kernel_rfl
@[go_sem] theorem T43_ok : zeroOk T43 = true := by kernel_rfl
noncomputable def T45 : Ty := (tyOf Tryd.prog 45).getD ⟨.invalid, 0, 0, none⟩
@[go_sem] theorem ty45 : tyOf Tryd.prog 45 = some T45 := by kernel_rfl
@[go_sem] theorem T45_desc : T45.desc = .func #[3, 22, 26] #[3, 3, 27] false := by kernel_rfl
@[go_sem] theorem T45_size : T45.size = 1 := by kernel_rfl
@[go_sem] theorem T45_bytes : T45.bytes = 8 := by kernel_rfl
@[go_sem] theorem T45_zero : zeroPV T45 = some (.d .nilfunc) := by kernel_rfl
@[go_sem] theorem T45_ok : zeroOk T45 = true := by kernel_rfl
noncomputable def T46 : Ty := (tyOf Tryd.prog 46).getD ⟨.invalid, 0, 0, none⟩
@[go_sem] theorem ty46 : tyOf Tryd.prog 46 = some T46 := by kernel_rfl
@[go_sem] theorem T46_desc : T46.desc = .func #[3, 22, 26] #[4] false := by kernel_rfl
@[go_sem] theorem T46_size : T46.size = 1 := by kernel_rfl
@[go_sem] theorem T46_bytes : T46.bytes = 8 := by kernel_rfl
@[go_sem] theorem T46_zero : zeroPV T46 = some (.d .nilfunc) := by kernel_rfl
@[go_sem] theorem T46_ok : zeroOk T46 = true := by kernel_rfl
noncomputable def T48 : Ty := (tyOf Tryd.prog 48).getD ⟨.invalid, 0, 0, none⟩
@[go_sem] theorem ty48 : tyOf Tryd.prog 48 = some T48 := by kernel_rfl
@[go_sem] theorem T48_desc : T48.desc = .func #[3, 32, 26] #[3, 27] false := by kernel_rfl
@[go_sem] theorem T48_size : T48.size = 1 := by kernel_rfl
@[go_sem] theorem T48_bytes : T48.bytes = 8 := by kernel_rfl
@[go_sem] theorem T48_zero : zeroPV T48 = some (.d .nilfunc) := by kernel_rfl
@[go_sem] theorem T48_ok : zeroOk T48 = true := by kernel_rfl
noncomputable def T49 : Ty := (tyOf Tryd.prog 49).getD ⟨.invalid, 0, 0, none⟩
@[go_sem] theorem ty49 : tyOf Tryd.prog 49 = some T49 := by kernel_rfl
@[go_sem] theorem T49_desc : T49.desc = .func #[3, 32, 26] #[4] false := by kernel_rfl
@[go_sem] theorem T49_size : T49.size = 1 := by kernel_rfl
@[go_sem] theorem T49_bytes : T49.bytes = 8 := by kernel_rfl
@[go_sem] theorem T49_zero : zeroPV T49 = some (.d .nilfunc) := by kernel_rfl
@[go_sem] theorem T49_ok : zeroOk T49 = true := by kernel_rfl
noncomputable def T50 : Ty := (tyOf Tryd.prog 50).getD ⟨.invalid, 0, 0, none⟩
@[go_sem] theorem ty50 : tyOf Tryd.prog 50 = some T50 := by kernel_rfl
@[go_sem] theorem T50_desc : T50.desc = .int .u16 := by kernel_rfl
@[go_sem] theorem T50_size : T50.size = 1 := by kernel_rfl
@[go_sem] theorem T50_bytes : T50.bytes = 2 := by kernel_rfl
@[go_sem] theorem T50_zero : zeroPV T50 = some (.d (.int .u16 0)) := by kernel_rfl
@[go_sem] theorem T50_ok : zeroOk T50 = true := by kernel_rfl
noncomputable def T51 : Ty := (tyOf Tryd.prog 51).getD ⟨.invalid, 0, 0, none⟩
@[go_sem] theorem ty51 : tyOf Tryd.prog 51 = some T51 := by kernel_rfl
@[go_sem] theorem T51_desc : T51.desc = .func #[4, 50] #[4] false := by kernel_rfl
@[go_sem] theorem T51_size : T51.size = 1 := by kernel_rfl
@[go_sem] theorem T51_bytes : T51.bytes = 8 := by kernel_rfl
@[go_sem] theorem T51_zero : zeroPV T51 = some (.d .nilfunc) := by kernel_rfl
@[go_sem] theorem T51_ok : zeroOk T51 = true := by kernel_rfl
noncomputable def T52 : Ty := (tyOf Tryd.prog 52).getD ⟨.invalid, 0, 0, none⟩
@[go_sem] theorem ty52 : tyOf Tryd.prog 52 = some T52 := by kernel_rfl
@[go_sem] theorem T52_desc : T52.desc = .slice 5 := by kernel_rfl
@[go_sem] theorem es52 : elemSize Tryd.prog 52 = some 1 := by kernel_rfl
@[go_sem] theorem T52_size : T52.size = 1 := by kernel_rfl
@[go_sem] theorem T52_bytes : T52.bytes = 24 := by kernel_rfl
@[go_sem] theorem T52_zero : zeroPV T52 = some (.d .nilslice) := by kernel_rfl
@[go_sem] theorem T52_ok : zeroOk T52 = true := by kernel_rfl
noncomputable def T53 : Ty := (tyOf Tryd.prog 53).getD ⟨.invalid, 0, 0, none⟩
@[go_sem] theorem ty53 : tyOf Tryd.prog 53 = some T53 := by kernel_rfl
@[go_sem] theorem T53_desc : T53.desc = .func #[3, 22] #[27] false := by kernel_rfl
@[go_sem] theorem T53_size : T53.size = 1 := by kernel_rfl
@[go_sem] theorem T53_bytes : T53.bytes = 8 := by kernel_rfl
@[go_sem] theorem T53_zero : zeroPV T53 = some (.d .nilfunc) := by kernel_rfl
@[go_sem] theorem T53_ok : zeroOk T53 = true := by kernel_rfl
noncomputable def T54 : Ty := (tyOf Tryd.prog 54).getD ⟨.invalid, 0, 0, none⟩
@[go_sem] theorem ty54 : tyOf Tryd.prog 54 = some T54 := by kernel_rfl
@[go_sem] theorem T54_desc : T54.desc = .slice 61 := by kernel_rfl
@[go_sem] theorem es54 : elemSize Tryd.prog 54 = some 2 := by kernel_rfl
@[go_sem] theorem T54_size : T54.size = 1 := by kernel_rfl
@[go_sem] theorem T54_bytes : T54.bytes = 24 := by kernel_rfl
@[go_sem] theorem T54_zero : zeroPV T54 = some (.d .nilslice) := by kernel_rfl
@[go_sem] theorem T54_ok : zeroOk T54 = true := by kernel_rfl
noncomputable def T55 : Ty := (tyOf Tryd.prog 55).getD ⟨.invalid, 0, 0, none⟩
@[go_sem] theorem ty55 : tyOf Tryd.prog 55 = some T55 := by kernel_rfl
noncomputable def fs55 : Array Field := match T55.desc with | .struct fs => fs | _ => #[]
@[go_sem] theorem T55_desc : T55.desc = .struct fs55 := by kernel_rfl
noncomputable def fs55_0 : Field := fs55.getD 0 default
@[go_sem] theorem fs55_at0 : fs55[0]? = some fs55_0 := by kernel_rfl
@[go_sem] theorem fs55_0_type : fs55_0.type = 54 := by kernel_rfl
@[go_sem] theorem fs55_0_off : fs55_0.offset = 0 := by kernel_rfl
@[go_sem] theorem fo55_0 : fieldOf Tryd.prog 55 0 = some (0, 1) := by kernel_rfl
noncomputable def fs55_1 : Field := fs55.getD 1 default
@[go_sem] theorem fs55_at1 : fs55[1]? = some fs55_1 := by kernel_rfl
@[go_sem] theorem fs55_1_type : fs55_1.type = 3 := by kernel_rfl
@[go_sem] theorem fs55_1_off : fs55_1.offset = 1 := by kernel_rfl
@[go_sem] theorem fo55_1 : fieldOf Tryd.prog 55 1 = some (1, 1) := by kernel_rfl
@[go_sem] theorem pl55 : placesOf Tryd.prog fs55.toList = some [(0, 1), (1, 1)] := by kernel_rfl
@[go_sem] theorem T55_size : T55.size = 2 := by kernel_rfl
@[go_sem] theorem T55_bytes : T55.bytes = 32 := by kernel_rfl
@[go_sem] theorem T55_cells : zeroCells T55.zero = some [.d .nilslice, .d (.int .i64 0)] := by kernel_rfl
@[go_sem] theorem T55_zero : zeroPV T55 = some (.d (.agg [.nilslice, (.int .i64 0)])) := by kernel_rfl
@[go_sem] theorem T55_ok : zeroOk T55 = true := by kernel_rfl
noncomputable def T56 : Ty := (tyOf Tryd.prog 56).getD ⟨.invalid, 0, 0, none⟩
@[go_sem] theorem ty56 : tyOf Tryd.prog 56 = some T56 := by kernel_rfl
noncomputable def fs56 : Array Field := match T56.desc with | .struct fs => fs | _ => #[]
@[go_sem] theorem T56_desc : T56.desc = .struct fs56 := by kernel_rfl
noncomputable def fs56_0 : Field := fs56.getD 0 default
@[go_sem] theorem fs56_at0 : fs56[0]? = some fs56_0 := by kernel_rfl
@[go_sem] theorem fs56_0_type : fs56_0.type = 54 := by kernel_rfl
@[go_sem] theorem fs56_0_off : fs56_0.offset = 0 := by kernel_rfl
@[go_sem] theorem fo56_0 : fieldOf Tryd.prog 56 0 = some (0, 1) := by kernel_rfl
noncomputable def fs56_1 : Field := fs56.getD 1 default
@[go_sem] theorem fs56_at1 : fs56[1]? = some fs56_1 := by kernel_rfl
@[go_sem] theorem fs56_1_type : fs56_1.type = 3 := by kernel_rfl
@[go_sem] theorem fs56_1_off : fs56_1.offset = 1 := by kernel_rfl
@[go_sem] theorem fo56_1 : fieldOf Tryd.prog 56 1 = some (1, 1) := by kernel_rfl
@[go_sem] theorem pl56 : placesOf Tryd.prog fs56.toList = some [(0, 1), (1, 1)] := by kernel_rfl
@[go_sem] theorem T56_size : T56.size = 2 := by kernel_rfl
@[go_sem] theorem T56_bytes : T56.bytes = 32 := by kernel_rfl
@[go_sem] theorem T56_cells : zeroCells T56.zero = some [.d .nilslice, .d (.int .i64 0)] := by kernel_rfl
@[go_sem] theorem T56_zero : zeroPV T56 = some (.d (.agg [.nilslice, (.int .i64 0)])) := by kernel_rfl
@[go_sem] theorem T56_ok : zeroOk T56 = true := by kernel_rfl
noncomputable def T57 : Ty := (tyOf Tryd.prog 57).getD ⟨.invalid, 0, 0, none⟩
@[go_sem] theorem ty57 : tyOf Tryd.prog 57 = some T57 := by kernel_rfl
@[go_sem] theorem T57_desc : T57.desc = .func #[3, 22, 52] #[4] false := by kernel_rfl
@[go_sem] theorem T57_size : T57.size = 1 := by kernel_rfl
@[go_sem] theorem T57_bytes : T57.bytes = 8 := by kernel_rfl
@[go_sem] theorem T57_zero : zeroPV T57 = some (.d .nilfunc) := by kernel_rfl
@[go_sem] theorem T57_ok : zeroOk T57 = true := by kernel_rfl
noncomputable def T59 : Ty := (tyOf Tryd.prog 59).getD ⟨.invalid, 0, 0, none⟩
@[go_sem] theorem ty59 : tyOf Tryd.prog 59 = some T59 := by kernel_rfl
@[go_sem] theorem T59_desc : T59.desc = .func #[3, 22] #[22, 27] false := by kernel_rfl
@[go_sem] theorem T59_size : T59.size = 1 := by kernel_rfl
@[go_sem] theorem T59_bytes : T59.bytes = 8 := by kernel_rfl
@[go_sem] theorem T59_zero : zeroPV T59 = some (.d .nilfunc) := by kernel_rfl
@[go_sem] theorem T59_ok : zeroOk T59 = true := by kernel_rfl
noncomputable def T60 : Ty := (tyOf Tryd.prog 60).getD ⟨.invalid, 0, 0, none⟩
@[go_sem] theorem ty60 : tyOf Tryd.prog 60 = some T60 := by kernel_rfl
noncomputable def fs60 : Array Field := match T60.desc with | .struct fs => fs | _ => #[]
@[go_sem] theorem T60_desc : T60.desc = .struct fs60 := by kernel_rfl
noncomputable def fs60_0 : Field := fs60.getD 0 default
@[go_sem] theorem fs60_at0 : fs60[0]? = some fs60_0 := by kernel_rfl
@[go_sem] theorem fs60_0_type : fs60_0.type = 3 := by kernel_rfl
@[go_sem] theorem fs60_0_off : fs60_0.offset = 0 := by kernel_rfl
@[go_sem] theorem fo60_0 : fieldOf Tryd.prog 60 0 = some (0, 1) := by kernel_rfl
@[go_sem] theorem fs60_0_nm : (fs60_0.name == "_") = false := by kernel_rfl
noncomputable def fs60_1 : Field := fs60.getD 1 default
@[go_sem] theorem fs60_at1 : fs60[1]? = some fs60_1 := by kernel_rfl
@[go_sem] theorem fs60_1_type : fs60_1.type = 3 := by kernel_rfl
@[go_sem] theorem fs60_1_off : fs60_1.offset = 1 := by kernel_rfl
@[go_sem] theorem fo60_1 : fieldOf Tryd.prog 60 1 = some (1, 1) := by kernel_rfl
@[go_sem] theorem fs60_1_nm : (fs60_1.name == "_") = false := by kernel_rfl
@[go_sem] theorem sih60 : Tryd.prog.stoodInHeld 60 = false := by kernel_rfl
@[go_sem] theorem egt60 : Tryd.prog.eqGuardType Tryd.prog.depth 60 = false := by kernel_rfl
@[go_sem] theorem pl60 : placesOf Tryd.prog fs60.toList = some [(0, 1), (1, 1)] := by kernel_rfl
@[go_sem] theorem T60_size : T60.size = 2 := by kernel_rfl
@[go_sem] theorem T60_bytes : T60.bytes = 16 := by kernel_rfl
@[go_sem] theorem T60_cells : zeroCells T60.zero = some [.d (.int .i64 0), .d (.int .i64 0)] := by kernel_rfl
@[go_sem] theorem T60_zero : zeroPV T60 = some (.d (.agg [(.int .i64 0), (.int .i64 0)])) := by kernel_rfl
@[go_sem] theorem T60_ok : zeroOk T60 = true := by kernel_rfl
noncomputable def T61 : Ty := (tyOf Tryd.prog 61).getD ⟨.invalid, 0, 0, none⟩
@[go_sem] theorem ty61 : tyOf Tryd.prog 61 = some T61 := by kernel_rfl
noncomputable def fs61 : Array Field := match T61.desc with | .struct fs => fs | _ => #[]
@[go_sem] theorem T61_desc : T61.desc = .struct fs61 := by kernel_rfl
noncomputable def fs61_0 : Field := fs61.getD 0 default
@[go_sem] theorem fs61_at0 : fs61[0]? = some fs61_0 := by kernel_rfl
@[go_sem] theorem fs61_0_type : fs61_0.type = 3 := by kernel_rfl
@[go_sem] theorem fs61_0_off : fs61_0.offset = 0 := by kernel_rfl
@[go_sem] theorem fo61_0 : fieldOf Tryd.prog 61 0 = some (0, 1) := by kernel_rfl
@[go_sem] theorem fs61_0_nm : (fs61_0.name == "_") = false := by kernel_rfl
noncomputable def fs61_1 : Field := fs61.getD 1 default
@[go_sem] theorem fs61_at1 : fs61[1]? = some fs61_1 := by kernel_rfl
@[go_sem] theorem fs61_1_type : fs61_1.type = 3 := by kernel_rfl
@[go_sem] theorem fs61_1_off : fs61_1.offset = 1 := by kernel_rfl
@[go_sem] theorem fo61_1 : fieldOf Tryd.prog 61 1 = some (1, 1) := by kernel_rfl
@[go_sem] theorem fs61_1_nm : (fs61_1.name == "_") = false := by kernel_rfl
@[go_sem] theorem sih61 : Tryd.prog.stoodInHeld 61 = false := by kernel_rfl
@[go_sem] theorem egt61 : Tryd.prog.eqGuardType Tryd.prog.depth 61 = false := by kernel_rfl
@[go_sem] theorem pl61 : placesOf Tryd.prog fs61.toList = some [(0, 1), (1, 1)] := by kernel_rfl
@[go_sem] theorem T61_size : T61.size = 2 := by kernel_rfl
@[go_sem] theorem T61_bytes : T61.bytes = 16 := by kernel_rfl
@[go_sem] theorem T61_cells : zeroCells T61.zero = some [.d (.int .i64 0), .d (.int .i64 0)] := by kernel_rfl
@[go_sem] theorem T61_zero : zeroPV T61 = some (.d (.agg [(.int .i64 0), (.int .i64 0)])) := by kernel_rfl
@[go_sem] theorem T61_ok : zeroOk T61 = true := by kernel_rfl
noncomputable def T62 : Ty := (tyOf Tryd.prog 62).getD ⟨.invalid, 0, 0, none⟩
@[go_sem] theorem ty62 : tyOf Tryd.prog 62 = some T62 := by kernel_rfl
@[go_sem] theorem T62_desc : T62.desc = .func #[3, 22, 56, 5] #[4] false := by kernel_rfl
@[go_sem] theorem T62_size : T62.size = 1 := by kernel_rfl
@[go_sem] theorem T62_bytes : T62.bytes = 8 := by kernel_rfl
@[go_sem] theorem T62_zero : zeroPV T62 = some (.d .nilfunc) := by kernel_rfl
@[go_sem] theorem T62_ok : zeroOk T62 = true := by kernel_rfl
noncomputable def T63 : Ty := (tyOf Tryd.prog 63).getD ⟨.invalid, 0, 0, none⟩
@[go_sem] theorem ty63 : tyOf Tryd.prog 63 = some T63 := by kernel_rfl
@[go_sem] theorem T63_desc : T63.desc = .func #[3, 26] #[4] false := by kernel_rfl
@[go_sem] theorem T63_size : T63.size = 1 := by kernel_rfl
@[go_sem] theorem T63_bytes : T63.bytes = 8 := by kernel_rfl
@[go_sem] theorem T63_zero : zeroPV T63 = some (.d .nilfunc) := by kernel_rfl
@[go_sem] theorem T63_ok : zeroOk T63 = true := by kernel_rfl
noncomputable def T64 : Ty := (tyOf Tryd.prog 64).getD ⟨.invalid, 0, 0, none⟩
@[go_sem] theorem ty64 : tyOf Tryd.prog 64 = some T64 := by kernel_rfl
@[go_sem] theorem T64_desc : T64.desc = .func #[3, 22, 22, 3, 3, 26] #[4] false := by kernel_rfl
@[go_sem] theorem T64_size : T64.size = 1 := by kernel_rfl
@[go_sem] theorem T64_bytes : T64.bytes = 8 := by kernel_rfl
@[go_sem] theorem T64_zero : zeroPV T64 = some (.d .nilfunc) := by kernel_rfl
@[go_sem] theorem T64_ok : zeroOk T64 = true := by kernel_rfl
noncomputable def T65 : Ty := (tyOf Tryd.prog 65).getD ⟨.invalid, 0, 0, none⟩
@[go_sem] theorem ty65 : tyOf Tryd.prog 65 = some T65 := by kernel_rfl
@[go_sem] theorem T65_desc : T65.desc = .func #[3, 22, 22, 26] #[4] false := by kernel_rfl
@[go_sem] theorem T65_size : T65.size = 1 := by kernel_rfl
@[go_sem] theorem T65_bytes : T65.bytes = 8 := by kernel_rfl
@[go_sem] theorem T65_zero : zeroPV T65 = some (.d .nilfunc) := by kernel_rfl
@[go_sem] theorem T65_ok : zeroOk T65 = true := by kernel_rfl
noncomputable def T66 : Ty := (tyOf Tryd.prog 66).getD ⟨.invalid, 0, 0, none⟩
@[go_sem] theorem ty66 : tyOf Tryd.prog 66 = some T66 := by kernel_rfl
@[go_sem] theorem T66_desc : T66.desc = .func #[3, 22, 3] #[3] false := by kernel_rfl
@[go_sem] theorem T66_size : T66.size = 1 := by kernel_rfl
@[go_sem] theorem T66_bytes : T66.bytes = 8 := by kernel_rfl
@[go_sem] theorem T66_zero : zeroPV T66 = some (.d .nilfunc) := by kernel_rfl
@[go_sem] theorem T66_ok : zeroOk T66 = true := by kernel_rfl
noncomputable def T67 : Ty := (tyOf Tryd.prog 67).getD ⟨.invalid, 0, 0, none⟩
@[go_sem] theorem ty67 : tyOf Tryd.prog 67 = some T67 := by kernel_rfl
@[go_sem] theorem T67_desc : T67.desc = .func #[] #[22] false := by kernel_rfl
@[go_sem] theorem T67_size : T67.size = 1 := by kernel_rfl
@[go_sem] theorem T67_bytes : T67.bytes = 8 := by kernel_rfl
@[go_sem] theorem T67_zero : zeroPV T67 = some (.d .nilfunc) := by kernel_rfl
@[go_sem] theorem T67_ok : zeroOk T67 = true := by kernel_rfl
noncomputable def T68 : Ty := (tyOf Tryd.prog 68).getD ⟨.invalid, 0, 0, none⟩
@[go_sem] theorem ty68 : tyOf Tryd.prog 68 = some T68 := by kernel_rfl
@[go_sem] theorem T68_desc : T68.desc = .func #[3, 113] #[27] true := by kernel_rfl
@[go_sem] theorem T68_size : T68.size = 1 := by kernel_rfl
@[go_sem] theorem T68_bytes : T68.bytes = 8 := by kernel_rfl
@[go_sem] theorem T68_zero : zeroPV T68 = some (.d .nilfunc) := by kernel_rfl
@[go_sem] theorem T68_ok : zeroOk T68 = true := by kernel_rfl
noncomputable def T69 : Ty := (tyOf Tryd.prog 69).getD ⟨.invalid, 0, 0, none⟩
@[go_sem] theorem ty69 : tyOf Tryd.prog 69 = some T69 := by kernel_rfl
@[go_sem] theorem T69_desc : T69.desc = .func #[26, 4] #[26, 27] false := by kernel_rfl
@[go_sem] theorem T69_size : T69.size = 1 := by kernel_rfl
@[go_sem] theorem T69_bytes : T69.bytes = 8 := by kernel_rfl
@[go_sem] theorem T69_zero : zeroPV T69 = some (.d .nilfunc) := by kernel_rfl
@[go_sem] theorem T69_ok : zeroOk T69 = true := by kernel_rfl
noncomputable def T71 : Ty := (tyOf Tryd.prog 71).getD ⟨.invalid, 0, 0, none⟩
@[go_sem] theorem ty71 : tyOf Tryd.prog 71 = some T71 := by kernel_rfl
noncomputable def fs71 : Array Field := match T71.desc with | .struct fs => fs | _ => #[]
@[go_sem] theorem T71_desc : T71.desc = .struct fs71 := by kernel_rfl
noncomputable def fs71_0 : Field := fs71.getD 0 default
@[go_sem] theorem fs71_at0 : fs71[0]? = some fs71_0 := by kernel_rfl
@[go_sem] theorem fs71_0_type : fs71_0.type = 3 := by kernel_rfl
@[go_sem] theorem fs71_0_off : fs71_0.offset = 0 := by kernel_rfl
@[go_sem] theorem fo71_0 : fieldOf Tryd.prog 71 0 = some (0, 1) := by kernel_rfl
noncomputable def fs71_1 : Field := fs71.getD 1 default
@[go_sem] theorem fs71_at1 : fs71[1]? = some fs71_1 := by kernel_rfl
@[go_sem] theorem fs71_1_type : fs71_1.type = 22 := by kernel_rfl
@[go_sem] theorem fs71_1_off : fs71_1.offset = 1 := by kernel_rfl
@[go_sem] theorem fo71_1 : fieldOf Tryd.prog 71 1 = some (1, 1) := by kernel_rfl
noncomputable def fs71_2 : Field := fs71.getD 2 default
@[go_sem] theorem fs71_at2 : fs71[2]? = some fs71_2 := by kernel_rfl
@[go_sem] theorem fs71_2_type : fs71_2.type = 22 := by kernel_rfl
@[go_sem] theorem fs71_2_off : fs71_2.offset = 2 := by kernel_rfl
@[go_sem] theorem fo71_2 : fieldOf Tryd.prog 71 2 = some (2, 1) := by kernel_rfl
@[go_sem] theorem pl71 : placesOf Tryd.prog fs71.toList = some [(0, 1), (1, 1), (2, 1)] := by kernel_rfl
@[go_sem] theorem T71_size : T71.size = 3 := by kernel_rfl
@[go_sem] theorem T71_bytes : T71.bytes = 56 := by kernel_rfl
@[go_sem] theorem T71_cells : zeroCells T71.zero = some [.d (.int .i64 0), .d .nilslice, .d .nilslice] := by kernel_rfl
@[go_sem] theorem T71_zero : zeroPV T71 = some (.d (.agg [(.int .i64 0), .nilslice, .nilslice])) := by kernel_rfl
@[go_sem] theorem T71_ok : zeroOk T71 = true := by kernel_rfl
noncomputable def T72 : Ty := (tyOf Tryd.prog 72).getD ⟨.invalid, 0, 0, none⟩
@[go_sem] theorem ty72 : tyOf Tryd.prog 72 = some T72 := by kernel_rfl
noncomputable def fs72 : Array Field := match T72.desc with | .struct fs => fs | _ => #[]
@[go_sem] theorem T72_desc : T72.desc = .struct fs72 := by kernel_rfl
noncomputable def fs72_0 : Field := fs72.getD 0 default
@[go_sem] theorem fs72_at0 : fs72[0]? = some fs72_0 := by kernel_rfl
@[go_sem] theorem fs72_0_type : fs72_0.type = 3 := by kernel_rfl
@[go_sem] theorem fs72_0_off : fs72_0.offset = 0 := by kernel_rfl
@[go_sem] theorem fo72_0 : fieldOf Tryd.prog 72 0 = some (0, 1) := by kernel_rfl
noncomputable def fs72_1 : Field := fs72.getD 1 default
@[go_sem] theorem fs72_at1 : fs72[1]? = some fs72_1 := by kernel_rfl
@[go_sem] theorem fs72_1_type : fs72_1.type = 22 := by kernel_rfl
@[go_sem] theorem fs72_1_off : fs72_1.offset = 1 := by kernel_rfl
@[go_sem] theorem fo72_1 : fieldOf Tryd.prog 72 1 = some (1, 1) := by kernel_rfl
noncomputable def fs72_2 : Field := fs72.getD 2 default
@[go_sem] theorem fs72_at2 : fs72[2]? = some fs72_2 := by kernel_rfl
@[go_sem] theorem fs72_2_type : fs72_2.type = 22 := by kernel_rfl
@[go_sem] theorem fs72_2_off : fs72_2.offset = 2 := by kernel_rfl
@[go_sem] theorem fo72_2 : fieldOf Tryd.prog 72 2 = some (2, 1) := by kernel_rfl
@[go_sem] theorem pl72 : placesOf Tryd.prog fs72.toList = some [(0, 1), (1, 1), (2, 1)] := by kernel_rfl
@[go_sem] theorem T72_size : T72.size = 3 := by kernel_rfl
@[go_sem] theorem T72_bytes : T72.bytes = 56 := by kernel_rfl
@[go_sem] theorem T72_cells : zeroCells T72.zero = some [.d (.int .i64 0), .d .nilslice, .d .nilslice] := by kernel_rfl
@[go_sem] theorem T72_zero : zeroPV T72 = some (.d (.agg [(.int .i64 0), .nilslice, .nilslice])) := by kernel_rfl
@[go_sem] theorem T72_ok : zeroOk T72 = true := by kernel_rfl
noncomputable def T73 : Ty := (tyOf Tryd.prog 73).getD ⟨.invalid, 0, 0, none⟩
@[go_sem] theorem ty73 : tyOf Tryd.prog 73 = some T73 := by kernel_rfl
@[go_sem] theorem T73_desc : T73.desc = .func #[74] #[26, 4] false := by kernel_rfl
@[go_sem] theorem T73_size : T73.size = 1 := by kernel_rfl
@[go_sem] theorem T73_bytes : T73.bytes = 8 := by kernel_rfl
@[go_sem] theorem T73_zero : zeroPV T73 = some (.d .nilfunc) := by kernel_rfl
@[go_sem] theorem T73_ok : zeroOk T73 = true := by kernel_rfl
noncomputable def T74 : Ty := (tyOf Tryd.prog 74).getD ⟨.invalid, 0, 0, none⟩
@[go_sem] theorem ty74 : tyOf Tryd.prog 74 = some T74 := by kernel_rfl
@[go_sem] theorem T74_desc : T74.desc = .func #[3, 3] #[4] false := by kernel_rfl
@[go_sem] theorem T74_size : T74.size = 1 := by kernel_rfl
@[go_sem] theorem T74_bytes : T74.bytes = 8 := by kernel_rfl
@[go_sem] theorem T74_zero : zeroPV T74 = some (.d .nilfunc) := by kernel_rfl
@[go_sem] theorem T74_ok : zeroOk T74 = true := by kernel_rfl
noncomputable def T75 : Ty := (tyOf Tryd.prog 75).getD ⟨.invalid, 0, 0, none⟩
@[go_sem] theorem ty75 : tyOf Tryd.prog 75 = some T75 := by kernel_rfl
@[go_sem] theorem T75_desc : T75.desc = .pointer 81 := by kernel_rfl
@[go_sem] theorem T75_size : T75.size = 1 := by kernel_rfl
@[go_sem] theorem T75_bytes : T75.bytes = 8 := by kernel_rfl
@[go_sem] theorem T75_zero : zeroPV T75 = some (.d .nilptr) := by kernel_rfl
@[go_sem] theorem T75_ok : zeroOk T75 = true := by kernel_rfl
noncomputable def T76 : Ty := (tyOf Tryd.prog 76).getD ⟨.invalid, 0, 0, none⟩
@[go_sem] theorem ty76 : tyOf Tryd.prog 76 = some T76 := by kernel_rfl
@[go_sem] theorem T76_desc : T76.desc = .slice 120 := by kernel_rfl
@[go_sem] theorem es76 : elemSize Tryd.prog 76 = some 3 := by kernel_rfl
@[go_sem] theorem T76_size : T76.size = 1 := by kernel_rfl
@[go_sem] theorem T76_bytes : T76.bytes = 24 := by kernel_rfl
@[go_sem] theorem T76_zero : zeroPV T76 = some (.d .nilslice) := by kernel_rfl
@[go_sem] theorem T76_ok : zeroOk T76 = true := by kernel_rfl
noncomputable def T77 : Ty := (tyOf Tryd.prog 77).getD ⟨.invalid, 0, 0, none⟩
@[go_sem] theorem ty77 : tyOf Tryd.prog 77 = some T77 := by kernel_rfl
noncomputable def fs77 : Array Field := match T77.desc with | .struct fs => fs | _ => #[]
@[go_sem] theorem T77_desc : T77.desc = .struct fs77 := by kernel_rfl
noncomputable def fs77_0 : Field := fs77.getD 0 default
@[go_sem] theorem fs77_at0 : fs77[0]? = some fs77_0 := by kernel_rfl
@[go_sem] theorem fs77_0_type : fs77_0.type = 26 := by kernel_rfl
@[go_sem] theorem fs77_0_off : fs77_0.offset = 0 := by kernel_rfl
@[go_sem] theorem fo77_0 : fieldOf Tryd.prog 77 0 = some (0, 1) := by kernel_rfl
noncomputable def fs77_1 : Field := fs77.getD 1 default
@[go_sem] theorem fs77_at1 : fs77[1]? = some fs77_1 := by kernel_rfl
@[go_sem] theorem fs77_1_type : fs77_1.type = 26 := by kernel_rfl
@[go_sem] theorem fs77_1_off : fs77_1.offset = 1 := by kernel_rfl
@[go_sem] theorem fo77_1 : fieldOf Tryd.prog 77 1 = some (1, 1) := by kernel_rfl
noncomputable def fs77_2 : Field := fs77.getD 2 default
@[go_sem] theorem fs77_at2 : fs77[2]? = some fs77_2 := by kernel_rfl
@[go_sem] theorem fs77_2_type : fs77_2.type = 76 := by kernel_rfl
@[go_sem] theorem fs77_2_off : fs77_2.offset = 2 := by kernel_rfl
@[go_sem] theorem fo77_2 : fieldOf Tryd.prog 77 2 = some (2, 1) := by kernel_rfl
@[go_sem] theorem pl77 : placesOf Tryd.prog fs77.toList = some [(0, 1), (1, 1), (2, 1)] := by kernel_rfl
@[go_sem] theorem T77_size : T77.size = 3 := by kernel_rfl
@[go_sem] theorem T77_bytes : T77.bytes = 72 := by kernel_rfl
@[go_sem] theorem T77_cells : zeroCells T77.zero = some [.d .nilslice, .d .nilslice, .d .nilslice] := by kernel_rfl
@[go_sem] theorem T77_zero : zeroPV T77 = some (.d (.agg [.nilslice, .nilslice, .nilslice])) := by kernel_rfl
@[go_sem] theorem T77_ok : zeroOk T77 = true := by kernel_rfl
noncomputable def T78 : Ty := (tyOf Tryd.prog 78).getD ⟨.invalid, 0, 0, none⟩
@[go_sem] theorem ty78 : tyOf Tryd.prog 78 = some T78 := by kernel_rfl
noncomputable def fs78 : Array Field := match T78.desc with | .struct fs => fs | _ => #[]
@[go_sem] theorem T78_desc : T78.desc = .struct fs78 := by kernel_rfl
noncomputable def fs78_0 : Field := fs78.getD 0 default
@[go_sem] theorem fs78_at0 : fs78[0]? = some fs78_0 := by kernel_rfl
@[go_sem] theorem fs78_0_type : fs78_0.type = 26 := by kernel_rfl
@[go_sem] theorem fs78_0_off : fs78_0.offset = 0 := by kernel_rfl
@[go_sem] theorem fo78_0 : fieldOf Tryd.prog 78 0 = some (0, 1) := by kernel_rfl
noncomputable def fs78_1 : Field := fs78.getD 1 default
@[go_sem] theorem fs78_at1 : fs78[1]? = some fs78_1 := by kernel_rfl
@[go_sem] theorem fs78_1_type : fs78_1.type = 26 := by kernel_rfl
@[go_sem] theorem fs78_1_off : fs78_1.offset = 1 := by kernel_rfl
@[go_sem] theorem fo78_1 : fieldOf Tryd.prog 78 1 = some (1, 1) := by kernel_rfl
noncomputable def fs78_2 : Field := fs78.getD 2 default
@[go_sem] theorem fs78_at2 : fs78[2]? = some fs78_2 := by kernel_rfl
@[go_sem] theorem fs78_2_type : fs78_2.type = 76 := by kernel_rfl
@[go_sem] theorem fs78_2_off : fs78_2.offset = 2 := by kernel_rfl
@[go_sem] theorem fo78_2 : fieldOf Tryd.prog 78 2 = some (2, 1) := by kernel_rfl
@[go_sem] theorem pl78 : placesOf Tryd.prog fs78.toList = some [(0, 1), (1, 1), (2, 1)] := by kernel_rfl
@[go_sem] theorem T78_size : T78.size = 3 := by kernel_rfl
@[go_sem] theorem T78_bytes : T78.bytes = 72 := by kernel_rfl
@[go_sem] theorem T78_cells : zeroCells T78.zero = some [.d .nilslice, .d .nilslice, .d .nilslice] := by kernel_rfl
@[go_sem] theorem T78_zero : zeroPV T78 = some (.d (.agg [.nilslice, .nilslice, .nilslice])) := by kernel_rfl
@[go_sem] theorem T78_ok : zeroOk T78 = true := by kernel_rfl
noncomputable def T79 : Ty := (tyOf Tryd.prog 79).getD ⟨.invalid, 0, 0, none⟩
@[go_sem] theorem ty79 : tyOf Tryd.prog 79 = some T79 := by kernel_rfl
@[go_sem] theorem T79_desc : T79.desc = .slice 26 := by kernel_rfl
@[go_sem] theorem es79 : elemSize Tryd.prog 79 = some 1 := by kernel_rfl
@[go_sem] theorem T79_size : T79.size = 1 := by kernel_rfl
@[go_sem] theorem T79_bytes : T79.bytes = 24 := by kernel_rfl
@[go_sem] theorem T79_zero : zeroPV T79 = some (.d .nilslice) := by kernel_rfl
@[go_sem] theorem T79_ok : zeroOk T79 = true := by kernel_rfl
noncomputable def T80 : Ty := (tyOf Tryd.prog 80).getD ⟨.invalid, 0, 0, none⟩
@[go_sem] theorem ty80 : tyOf Tryd.prog 80 = some T80 := by kernel_rfl
noncomputable def fs80 : Array Field := match T80.desc with | .struct fs => fs | _ => #[]
@[go_sem] theorem T80_desc : T80.desc = .struct fs80 := by kernel_rfl
noncomputable def fs80_0 : Field := fs80.getD 0 default
@[go_sem] theorem fs80_at0 : fs80[0]? = some fs80_0 := by kernel_rfl
@[go_sem] theorem fs80_0_type : fs80_0.type = 3 := by kernel_rfl
@[go_sem] theorem fs80_0_off : fs80_0.offset = 0 := by kernel_rfl
@[go_sem] theorem fo80_0 : fieldOf Tryd.prog 80 0 = some (0, 1) := by kernel_rfl
noncomputable def fs80_1 : Field := fs80.getD 1 default
@[go_sem] theorem fs80_at1 : fs80[1]? = some fs80_1 := by kernel_rfl
@[go_sem] theorem fs80_1_type : fs80_1.type = 22 := by kernel_rfl
@[go_sem] theorem fs80_1_off : fs80_1.offset = 1 := by kernel_rfl
@[go_sem] theorem fo80_1 : fieldOf Tryd.prog 80 1 = some (1, 1) := by kernel_rfl
noncomputable def fs80_2 : Field := fs80.getD 2 default
@[go_sem] theorem fs80_at2 : fs80[2]? = some fs80_2 := by kernel_rfl
@[go_sem] theorem fs80_2_type : fs80_2.type = 78 := by kernel_rfl
@[go_sem] theorem fs80_2_off : fs80_2.offset = 2 := by kernel_rfl
@[go_sem] theorem fo80_2 : fieldOf Tryd.prog 80 2 = some (2, 3) := by kernel_rfl
noncomputable def fs80_3 : Field := fs80.getD 3 default
@[go_sem] theorem fs80_at3 : fs80[3]? = some fs80_3 := by kernel_rfl
@[go_sem] theorem fs80_3_type : fs80_3.type = 79 := by kernel_rfl
@[go_sem] theorem fs80_3_off : fs80_3.offset = 5 := by kernel_rfl
@[go_sem] theorem fo80_3 : fieldOf Tryd.prog 80 3 = some (5, 1) := by kernel_rfl
noncomputable def fs80_4 : Field := fs80.getD 4 default
@[go_sem] theorem fs80_at4 : fs80[4]? = some fs80_4 := by kernel_rfl
@[go_sem] theorem fs80_4_type : fs80_4.type = 26 := by kernel_rfl
@[go_sem] theorem fs80_4_off : fs80_4.offset = 6 := by kernel_rfl
@[go_sem] theorem fo80_4 : fieldOf Tryd.prog 80 4 = some (6, 1) := by kernel_rfl
noncomputable def fs80_5 : Field := fs80.getD 5 default
@[go_sem] theorem fs80_at5 : fs80[5]? = some fs80_5 := by kernel_rfl
@[go_sem] theorem fs80_5_type : fs80_5.type = 32 := by kernel_rfl
@[go_sem] theorem fs80_5_off : fs80_5.offset = 7 := by kernel_rfl
@[go_sem] theorem fo80_5 : fieldOf Tryd.prog 80 5 = some (7, 1) := by kernel_rfl
@[go_sem] theorem pl80 : placesOf Tryd.prog fs80.toList = some [(0, 1), (1, 1), (2, 3), (5, 1), (6, 1), (7, 1)] := by kernel_rfl
@[go_sem] theorem T80_size : T80.size = 8 := by kernel_rfl
@[go_sem] theorem T80_bytes : T80.bytes = 176 := by kernel_rfl
@[go_sem] theorem T80_cells : zeroCells T80.zero = some [.d (.int .i64 0), .d .nilslice, .d .nilslice, .d .nilslice, .d .nilslice, .d .nilslice, .d .nilslice, .d .nilslice] := by kernel_rfl
@[go_sem] theorem T80_zero : zeroPV T80 = some (.d (.agg [(.int .i64 0), .nilslice, .nilslice, .nilslice, .nilslice, .nilslice, .nilslice, .nilslice])) := by kernel_rfl
@[go_sem] theorem T80_ok : zeroOk T80 = true := by kernel_rfl
noncomputable def T81 : Ty := (tyOf Tryd.prog 81).getD ⟨.invalid, 0, 0, none⟩
@[go_sem] theorem ty81 : tyOf Tryd.prog 81 = some T81 := by kernel_rfl
noncomputable def fs81 : Array Field := match T81.desc with | .struct fs => fs | _ => #[]
@[go_sem] theorem T81_desc : T81.desc = .struct fs81 := by kernel_rfl
noncomputable def fs81_0 : Field := fs81.getD 0 default
@[go_sem] theorem fs81_at0 : fs81[0]? = some fs81_0 := by kernel_rfl
@[go_sem] theorem fs81_0_type : fs81_0.type = 3 := by kernel_rfl
@[go_sem] theorem fs81_0_off : fs81_0.offset = 0 := by kernel_rfl
@[go_sem] theorem fo81_0 : fieldOf Tryd.prog 81 0 = some (0, 1) := by kernel_rfl
noncomputable def fs81_1 : Field := fs81.getD 1 default
@[go_sem] theorem fs81_at1 : fs81[1]? = some fs81_1 := by kernel_rfl
@[go_sem] theorem fs81_1_type : fs81_1.type = 22 := by kernel_rfl
@[go_sem] theorem fs81_1_off : fs81_1.offset = 1 := by kernel_rfl
@[go_sem] theorem fo81_1 : fieldOf Tryd.prog 81 1 = some (1, 1) := by kernel_rfl
noncomputable def fs81_2 : Field := fs81.getD 2 default
@[go_sem] theorem fs81_at2 : fs81[2]? = some fs81_2 := by kernel_rfl
@[go_sem] theorem fs81_2_type : fs81_2.type = 78 := by kernel_rfl
@[go_sem] theorem fs81_2_off : fs81_2.offset = 2 := by kernel_rfl
@[go_sem] theorem fo81_2 : fieldOf Tryd.prog 81 2 = some (2, 3) := by kernel_rfl
noncomputable def fs81_3 : Field := fs81.getD 3 default
@[go_sem] theorem fs81_at3 : fs81[3]? = some fs81_3 := by kernel_rfl
@[go_sem] theorem fs81_3_type : fs81_3.type = 79 := by kernel_rfl
@[go_sem] theorem fs81_3_off : fs81_3.offset = 5 := by kernel_rfl
@[go_sem] theorem fo81_3 : fieldOf Tryd.prog 81 3 = some (5, 1) := by kernel_rfl
noncomputable def fs81_4 : Field := fs81.getD 4 default
@[go_sem] theorem fs81_at4 : fs81[4]? = some fs81_4 := by kernel_rfl
@[go_sem] theorem fs81_4_type : fs81_4.type = 26 := by kernel_rfl
@[go_sem] theorem fs81_4_off : fs81_4.offset = 6 := by kernel_rfl
@[go_sem] theorem fo81_4 : fieldOf Tryd.prog 81 4 = some (6, 1) := by kernel_rfl
noncomputable def fs81_5 : Field := fs81.getD 5 default
@[go_sem] theorem fs81_at5 : fs81[5]? = some fs81_5 := by kernel_rfl
@[go_sem] theorem fs81_5_type : fs81_5.type = 32 := by kernel_rfl
@[go_sem] theorem fs81_5_off : fs81_5.offset = 7 := by kernel_rfl
@[go_sem] theorem fo81_5 : fieldOf Tryd.prog 81 5 = some (7, 1) := by kernel_rfl
@[go_sem] theorem pl81 : placesOf Tryd.prog fs81.toList = some [(0, 1), (1, 1), (2, 3), (5, 1), (6, 1), (7, 1)] := by kernel_rfl
@[go_sem] theorem T81_size : T81.size = 8 := by kernel_rfl
@[go_sem] theorem T81_bytes : T81.bytes = 176 := by kernel_rfl
@[go_sem] theorem T81_cells : zeroCells T81.zero = some [.d (.int .i64 0), .d .nilslice, .d .nilslice, .d .nilslice, .d .nilslice, .d .nilslice, .d .nilslice, .d .nilslice] := by kernel_rfl
@[go_sem] theorem T81_zero : zeroPV T81 = some (.d (.agg [(.int .i64 0), .nilslice, .nilslice, .nilslice, .nilslice, .nilslice, .nilslice, .nilslice])) := by kernel_rfl
@[go_sem] theorem T81_ok : zeroOk T81 = true := by kernel_rfl
noncomputable def T82 : Ty := (tyOf Tryd.prog 82).getD ⟨.invalid, 0, 0, none⟩
@[go_sem] theorem ty82 : tyOf Tryd.prog 82 = some T82 := by kernel_rfl
@[go_sem] theorem T82_desc : T82.desc = .func #[22] #[3] false := by kernel_rfl
@[go_sem] theorem T82_size : T82.size = 1 := by kernel_rfl
@[go_sem] theorem T82_bytes : T82.bytes = 8 := by kernel_rfl
@[go_sem] theorem T82_zero : zeroPV T82 = some (.d .nilfunc) := by kernel_rfl
@[go_sem] theorem T82_ok : zeroOk T82 = true := by kernel_rfl
noncomputable def T83 : Ty := (tyOf Tryd.prog 83).getD ⟨.invalid, 0, 0, none⟩
@[go_sem] theorem ty83 : tyOf Tryd.prog 83 = some T83 := by kernel_rfl
@[go_sem] theorem T83_desc : T83.desc = .func #[3, 3] #[26] false := by kernel_rfl
@[go_sem] theorem T83_size : T83.size = 1 := by kernel_rfl
@[go_sem] theorem T83_bytes : T83.bytes = 8 := by kernel_rfl
@[go_sem] theorem T83_zero : zeroPV T83 = some (.d .nilfunc) := by kernel_rfl
@[go_sem] theorem T83_ok : zeroOk T83 = true := by kernel_rfl
noncomputable def T84 : Ty := (tyOf Tryd.prog 84).getD ⟨.invalid, 0, 0, none⟩
@[go_sem] theorem ty84 : tyOf Tryd.prog 84 = some T84 := by kernel_rfl
@[go_sem] theorem T84_desc : T84.desc = .func #[22, 3, 3] #[26] false := by kernel_rfl
@[go_sem] theorem T84_size : T84.size = 1 := by kernel_rfl
@[go_sem] theorem T84_bytes : T84.bytes = 8 := by kernel_rfl
@[go_sem] theorem T84_zero : zeroPV T84 = some (.d .nilfunc) := by kernel_rfl
@[go_sem] theorem T84_ok : zeroOk T84 = true := by kernel_rfl
noncomputable def T85 : Ty := (tyOf Tryd.prog 85).getD ⟨.invalid, 0, 0, none⟩
@[go_sem] theorem ty85 : tyOf Tryd.prog 85 = some T85 := by kernel_rfl
@[go_sem] theorem T85_desc : T85.desc = .func #[22, 3, 3, 3] #[3] false := by kernel_rfl
@[go_sem] theorem T85_size : T85.size = 1 := by kernel_rfl
@[go_sem] theorem T85_bytes : T85.bytes = 8 := by kernel_rfl
@[go_sem] theorem T85_zero : zeroPV T85 = some (.d .nilfunc) := by kernel_rfl
@[go_sem] theorem T85_ok : zeroOk T85 = true := by kernel_rfl
noncomputable def T86 : Ty := (tyOf Tryd.prog 86).getD ⟨.invalid, 0, 0, none⟩
@[go_sem] theorem ty86 : tyOf Tryd.prog 86 = some T86 := by kernel_rfl
@[go_sem] theorem T86_desc : T86.desc = .func #[3, 3] #[3] false := by kernel_rfl
@[go_sem] theorem T86_size : T86.size = 1 := by kernel_rfl
@[go_sem] theorem T86_bytes : T86.bytes = 8 := by kernel_rfl
@[go_sem] theorem T86_zero : zeroPV T86 = some (.d .nilfunc) := by kernel_rfl
@[go_sem] theorem T86_ok : zeroOk T86 = true := by kernel_rfl
noncomputable def T87 : Ty := (tyOf Tryd.prog 87).getD ⟨.invalid, 0, 0, none⟩
@[go_sem] theorem ty87 : tyOf Tryd.prog 87 = some T87 := by kernel_rfl
@[go_sem] theorem T87_desc : T87.desc = .func #[3, 26] #[26] false := by kernel_rfl
@[go_sem] theorem T87_size : T87.size = 1 := by kernel_rfl
@[go_sem] theorem T87_bytes : T87.bytes = 8 := by kernel_rfl
@[go_sem] theorem T87_zero : zeroPV T87 = some (.d .nilfunc) := by kernel_rfl
@[go_sem] theorem T87_ok : zeroOk T87 = true := by kernel_rfl
noncomputable def T88 : Ty := (tyOf Tryd.prog 88).getD ⟨.invalid, 0, 0, none⟩
@[go_sem] theorem ty88 : tyOf Tryd.prog 88 = some T88 := by kernel_rfl
@[go_sem] theorem T88_desc : T88.desc = .pointer 92 := by kernel_rfl
@[go_sem] theorem T88_size : T88.size = 1 := by kernel_rfl
@[go_sem] theorem T88_bytes : T88.bytes = 8 := by kernel_rfl
@[go_sem] theorem T88_zero : zeroPV T88 = some (.d .nilptr) := by kernel_rfl
@[go_sem] theorem T88_ok : zeroOk T88 = true := by kernel_rfl
noncomputable def T89 : Ty := (tyOf Tryd.prog 89).getD ⟨.invalid, 0, 0, none⟩
@[go_sem] theorem ty89 : tyOf Tryd.prog 89 = some T89 := by kernel_rfl
@[go_sem] theorem T89_desc : T89.desc = .map 121 3 := by kernel_rfl
@[go_sem] theorem T89_size : T89.size = 1 := by kernel_rfl
@[go_sem] theorem T89_bytes : T89.bytes = 8 := by kernel_rfl
@[go_sem] theorem T89_zero : zeroPV T89 = some (.d .nilmap) := by kernel_rfl
@[go_sem] theorem T89_ok : zeroOk T89 = true := by kernel_rfl
noncomputable def T90 : Ty := (tyOf Tryd.prog 90).getD ⟨.invalid, 0, 0, none⟩
@[go_sem] theorem ty90 : tyOf Tryd.prog 90 = some T90 := by kernel_rfl
@[go_sem] theorem T90_desc : T90.desc = .map 9 3 := by kernel_rfl
@[go_sem] theorem T90_size : T90.size = 1 := by kernel_rfl
@[go_sem] theorem T90_bytes : T90.bytes = 8 := by kernel_rfl
@[go_sem] theorem T90_zero : zeroPV T90 = some (.d .nilmap) := by kernel_rfl
@[go_sem] theorem T90_ok : zeroOk T90 = true := by kernel_rfl
noncomputable def T91 : Ty := (tyOf Tryd.prog 91).getD ⟨.invalid, 0, 0, none⟩
@[go_sem] theorem ty91 : tyOf Tryd.prog 91 = some T91 := by kernel_rfl
noncomputable def fs91 : Array Field := match T91.desc with | .struct fs => fs | _ => #[]
@[go_sem] theorem T91_desc : T91.desc = .struct fs91 := by kernel_rfl
noncomputable def fs91_0 : Field := fs91.getD 0 default
@[go_sem] theorem fs91_at0 : fs91[0]? = some fs91_0 := by kernel_rfl
@[go_sem] theorem fs91_0_type : fs91_0.type = 3 := by kernel_rfl
@[go_sem] theorem fs91_0_off : fs91_0.offset = 0 := by kernel_rfl
@[go_sem] theorem fo91_0 : fieldOf Tryd.prog 91 0 = some (0, 1) := by kernel_rfl
noncomputable def fs91_1 : Field := fs91.getD 1 default
@[go_sem] theorem fs91_at1 : fs91[1]? = some fs91_1 := by kernel_rfl
@[go_sem] theorem fs91_1_type : fs91_1.type = 22 := by kernel_rfl
@[go_sem] theorem fs91_1_off : fs91_1.offset = 1 := by kernel_rfl
@[go_sem] theorem fo91_1 : fieldOf Tryd.prog 91 1 = some (1, 1) := by kernel_rfl
noncomputable def fs91_2 : Field := fs91.getD 2 default
@[go_sem] theorem fs91_at2 : fs91[2]? = some fs91_2 := by kernel_rfl
@[go_sem] theorem fs91_2_type : fs91_2.type = 89 := by kernel_rfl
@[go_sem] theorem fs91_2_off : fs91_2.offset = 2 := by kernel_rfl
@[go_sem] theorem fo91_2 : fieldOf Tryd.prog 91 2 = some (2, 1) := by kernel_rfl
noncomputable def fs91_3 : Field := fs91.getD 3 default
@[go_sem] theorem fs91_at3 : fs91[3]? = some fs91_3 := by kernel_rfl
@[go_sem] theorem fs91_3_type : fs91_3.type = 90 := by kernel_rfl
@[go_sem] theorem fs91_3_off : fs91_3.offset = 3 := by kernel_rfl
@[go_sem] theorem fo91_3 : fieldOf Tryd.prog 91 3 = some (3, 1) := by kernel_rfl
noncomputable def fs91_4 : Field := fs91.getD 4 default
@[go_sem] theorem fs91_at4 : fs91[4]? = some fs91_4 := by kernel_rfl
@[go_sem] theorem fs91_4_type : fs91_4.type = 32 := by kernel_rfl
@[go_sem] theorem fs91_4_off : fs91_4.offset = 4 := by kernel_rfl
@[go_sem] theorem fo91_4 : fieldOf Tryd.prog 91 4 = some (4, 1) := by kernel_rfl
@[go_sem] theorem pl91 : placesOf Tryd.prog fs91.toList = some [(0, 1), (1, 1), (2, 1), (3, 1), (4, 1)] := by kernel_rfl
@[go_sem] theorem T91_size : T91.size = 5 := by kernel_rfl
@[go_sem] theorem T91_bytes : T91.bytes = 72 := by kernel_rfl
@[go_sem] theorem T91_cells : zeroCells T91.zero = some [.d (.int .i64 0), .d .nilslice, .d .nilmap, .d .nilmap, .d .nilslice] := by kernel_rfl
@[go_sem] theorem T91_zero : zeroPV T91 = some (.d (.agg [(.int .i64 0), .nilslice, .nilmap, .nilmap, .nilslice])) := by kernel_rfl
@[go_sem] theorem T91_ok : zeroOk T91 = true := by kernel_rfl
noncomputable def T92 : Ty := (tyOf Tryd.prog 92).getD ⟨.invalid, 0, 0, none⟩
@[go_sem] theorem ty92 : tyOf Tryd.prog 92 = some T92 := by kernel_rfl
noncomputable def fs92 : Array Field := match T92.desc with | .struct fs => fs | _ => #[]
@[go_sem] theorem T92_desc : T92.desc = .struct fs92 := by kernel_rfl
noncomputable def fs92_0 : Field := fs92.getD 0 default
@[go_sem] theorem fs92_at0 : fs92[0]? = some fs92_0 := by kernel_rfl
@[go_sem] theorem fs92_0_type : fs92_0.type = 3 := by kernel_rfl
@[go_sem] theorem fs92_0_off : fs92_0.offset = 0 := by kernel_rfl
@[go_sem] theorem fo92_0 : fieldOf Tryd.prog 92 0 = some (0, 1) := by kernel_rfl
noncomputable def fs92_1 : Field := fs92.getD 1 default
@[go_sem] theorem fs92_at1 : fs92[1]? = some fs92_1 := by kernel_rfl
@[go_sem] theorem fs92_1_type : fs92_1.type = 22 := by kernel_rfl
@[go_sem] theorem fs92_1_off : fs92_1.offset = 1 := by kernel_rfl
@[go_sem] theorem fo92_1 : fieldOf Tryd.prog 92 1 = some (1, 1) := by kernel_rfl
noncomputable def fs92_2 : Field := fs92.getD 2 default
@[go_sem] theorem fs92_at2 : fs92[2]? = some fs92_2 := by kernel_rfl
@[go_sem] theorem fs92_2_type : fs92_2.type = 89 := by kernel_rfl
@[go_sem] theorem fs92_2_off : fs92_2.offset = 2 := by kernel_rfl
@[go_sem] theorem fo92_2 : fieldOf Tryd.prog 92 2 = some (2, 1) := by kernel_rfl
noncomputable def fs92_3 : Field := fs92.getD 3 default
@[go_sem] theorem fs92_at3 : fs92[3]? = some fs92_3 := by kernel_rfl
@[go_sem] theorem fs92_3_type : fs92_3.type = 90 := by kernel_rfl
@[go_sem] theorem fs92_3_off : fs92_3.offset = 3 := by kernel_rfl
@[go_sem] theorem fo92_3 : fieldOf Tryd.prog 92 3 = some (3, 1) := by kernel_rfl
noncomputable def fs92_4 : Field := fs92.getD 4 default
@[go_sem] theorem fs92_at4 : fs92[4]? = some fs92_4 := by kernel_rfl
@[go_sem] theorem fs92_4_type : fs92_4.type = 32 := by kernel_rfl
@[go_sem] theorem fs92_4_off : fs92_4.offset = 4 := by kernel_rfl
@[go_sem] theorem fo92_4 : fieldOf Tryd.prog 92 4 = some (4, 1) := by kernel_rfl
@[go_sem] theorem pl92 : placesOf Tryd.prog fs92.toList = some [(0, 1), (1, 1), (2, 1), (3, 1), (4, 1)] := by kernel_rfl
@[go_sem] theorem T92_size : T92.size = 5 := by kernel_rfl
@[go_sem] theorem T92_bytes : T92.bytes = 72 := by kernel_rfl
@[go_sem] theorem T92_cells : zeroCells T92.zero = some [.d (.int .i64 0), .d .nilslice, .d .nilmap, .d .nilmap, .d .nilslice] := by kernel_rfl
@[go_sem] theorem T92_zero : zeroPV T92 = some (.d (.agg [(.int .i64 0), .nilslice, .nilmap, .nilmap, .nilslice])) := by kernel_rfl
@[go_sem] theorem T92_ok : zeroOk T92 = true := by kernel_rfl
noncomputable def T93 : Ty := (tyOf Tryd.prog 93).getD ⟨.invalid, 0, 0, none⟩
@[go_sem] theorem ty93 : tyOf Tryd.prog 93 = some T93 := by kernel_rfl
@[go_sem] theorem T93_desc : T93.desc = .func #[3, 95] #[3] false := by kernel_rfl
@[go_sem] theorem T93_size : T93.size = 1 := by kernel_rfl
@[go_sem] theorem T93_bytes : T93.bytes = 8 := by kernel_rfl
@[go_sem] theorem T93_zero : zeroPV T93 = some (.d .nilfunc) := by kernel_rfl
@[go_sem] theorem T93_ok : zeroOk T93 = true := by kernel_rfl
noncomputable def T94 : Ty := (tyOf Tryd.prog 94).getD ⟨.invalid, 0, 0, none⟩
@[go_sem] theorem ty94 : tyOf Tryd.prog 94 = some T94 := by kernel_rfl
@[go_sem] theorem T94_desc : T94.desc = .int .u32 := by kernel_rfl
@[go_sem] theorem T94_size : T94.size = 1 := by kernel_rfl
@[go_sem] theorem T94_bytes : T94.bytes = 4 := by kernel_rfl
@[go_sem] theorem T94_zero : zeroPV T94 = some (.d (.int .u32 0)) := by kernel_rfl
@[go_sem] theorem T94_ok : zeroOk T94 = true := by kernel_rfl
noncomputable def T95 : Ty := (tyOf Tryd.prog 95).getD ⟨.invalid, 0, 0, none⟩
@[go_sem] theorem ty95 : tyOf Tryd.prog 95 = some T95 := by kernel_rfl
@[go_sem] theorem T95_desc : T95.desc = .int .u32 := by kernel_rfl
@[go_sem] theorem T95_size : T95.size = 1 := by kernel_rfl
@[go_sem] theorem T95_bytes : T95.bytes = 4 := by kernel_rfl
@[go_sem] theorem T95_zero : zeroPV T95 = some (.d (.int .u32 0)) := by kernel_rfl
@[go_sem] theorem T95_ok : zeroOk T95 = true := by kernel_rfl
noncomputable def T96 : Ty := (tyOf Tryd.prog 96).getD ⟨.invalid, 0, 0, none⟩
@[go_sem] theorem ty96 : tyOf Tryd.prog 96 = some T96 := by kernel_rfl
@[go_sem] theorem T96_desc : T96.desc = .func #[22] #[95] false := by kernel_rfl
@[go_sem] theorem T96_size : T96.size = 1 := by kernel_rfl
@[go_sem] theorem T96_bytes : T96.bytes = 8 := by kernel_rfl
@[go_sem] theorem T96_zero : zeroPV T96 = some (.d .nilfunc) := by kernel_rfl
@[go_sem] theorem T96_ok : zeroOk T96 = true := by kernel_rfl
noncomputable def T97 : Ty := (tyOf Tryd.prog 97).getD ⟨.invalid, 0, 0, none⟩
@[go_sem] theorem ty97 : tyOf Tryd.prog 97 = some T97 := by kernel_rfl
@[go_sem] theorem T97_desc : T97.desc = .func #[3] #[32] false := by kernel_rfl
@[go_sem] theorem T97_size : T97.size = 1 := by kernel_rfl
@[go_sem] theorem T97_bytes : T97.bytes = 8 := by kernel_rfl
@[go_sem] theorem T97_zero : zeroPV T97 = some (.d .nilfunc) := by kernel_rfl
@[go_sem] theorem T97_ok : zeroOk T97 = true := by kernel_rfl
noncomputable def T98 : Ty := (tyOf Tryd.prog 98).getD ⟨.invalid, 0, 0, none⟩
@[go_sem] theorem ty98 : tyOf Tryd.prog 98 = some T98 := by kernel_rfl
@[go_sem] theorem T98_desc : T98.desc = .func #[3, 22] #[26] false := by kernel_rfl
@[go_sem] theorem T98_size : T98.size = 1 := by kernel_rfl
@[go_sem] theorem T98_bytes : T98.bytes = 8 := by kernel_rfl
@[go_sem] theorem T98_zero : zeroPV T98 = some (.d .nilfunc) := by kernel_rfl
@[go_sem] theorem T98_ok : zeroOk T98 = true := by kernel_rfl
noncomputable def T99 : Ty := (tyOf Tryd.prog 99).getD ⟨.invalid, 0, 0, none⟩
@[go_sem] theorem ty99 : tyOf Tryd.prog 99 = some T99 := by kernel_rfl
@[go_sem] theorem T99_desc : T99.desc = .func #[3, 22, 22] #[26, 4] false := by kernel_rfl
@[go_sem] theorem T99_size : T99.size = 1 := by kernel_rfl
@[go_sem] theorem T99_bytes : T99.bytes = 8 := by kernel_rfl
@[go_sem] theorem T99_zero : zeroPV T99 = some (.d .nilfunc) := by kernel_rfl
@[go_sem] theorem T99_ok : zeroOk T99 = true := by kernel_rfl
noncomputable def T100 : Ty := (tyOf Tryd.prog 100).getD ⟨.invalid, 0, 0, none⟩
@[go_sem] theorem ty100 : tyOf Tryd.prog 100 = some T100 := by kernel_rfl
@[go_sem] theorem T100_desc : T100.desc = .pointer 102 := by kernel_rfl
@[go_sem] theorem T100_size : T100.size = 1 := by kernel_rfl
@[go_sem] theorem T100_bytes : T100.bytes = 8 := by kernel_rfl
@[go_sem] theorem T100_zero : zeroPV T100 = some (.d .nilptr) := by kernel_rfl
@[go_sem] theorem T100_ok : zeroOk T100 = true := by kernel_rfl
noncomputable def T101 : Ty := (tyOf Tryd.prog 101).getD ⟨.invalid, 0, 0, none⟩
@[go_sem] theorem ty101 : tyOf Tryd.prog 101 = some T101 := by kernel_rfl
noncomputable def fs101 : Array Field := match T101.desc with | .struct fs => fs | _ => #[]
@[go_sem] theorem T101_desc : T101.desc = .struct fs101 := by kernel_rfl
noncomputable def fs101_0 : Field := fs101.getD 0 default
@[go_sem] theorem fs101_at0 : fs101[0]? = some fs101_0 := by kernel_rfl
@[go_sem] theorem fs101_0_type : fs101_0.type = 3 := by kernel_rfl
@[go_sem] theorem fs101_0_off : fs101_0.offset = 0 := by kernel_rfl
@[go_sem] theorem fo101_0 : fieldOf Tryd.prog 101 0 = some (0, 1) := by kernel_rfl
noncomputable def fs101_1 : Field := fs101.getD 1 default
@[go_sem] theorem fs101_at1 : fs101[1]? = some fs101_1 := by kernel_rfl
@[go_sem] theorem fs101_1_type : fs101_1.type = 22 := by kernel_rfl
@[go_sem] theorem fs101_1_off : fs101_1.offset = 1 := by kernel_rfl
@[go_sem] theorem fo101_1 : fieldOf Tryd.prog 101 1 = some (1, 1) := by kernel_rfl
noncomputable def fs101_2 : Field := fs101.getD 2 default
@[go_sem] theorem fs101_at2 : fs101[2]? = some fs101_2 := by kernel_rfl
@[go_sem] theorem fs101_2_type : fs101_2.type = 22 := by kernel_rfl
@[go_sem] theorem fs101_2_off : fs101_2.offset = 2 := by kernel_rfl
@[go_sem] theorem fo101_2 : fieldOf Tryd.prog 101 2 = some (2, 1) := by kernel_rfl
noncomputable def fs101_3 : Field := fs101.getD 3 default
@[go_sem] theorem fs101_at3 : fs101[3]? = some fs101_3 := by kernel_rfl
@[go_sem] theorem fs101_3_type : fs101_3.type = 78 := by kernel_rfl
@[go_sem] theorem fs101_3_off : fs101_3.offset = 3 := by kernel_rfl
@[go_sem] theorem fo101_3 : fieldOf Tryd.prog 101 3 = some (3, 3) := by kernel_rfl
@[go_sem] theorem pl101 : placesOf Tryd.prog fs101.toList = some [(0, 1), (1, 1), (2, 1), (3, 3)] := by kernel_rfl
@[go_sem] theorem T101_size : T101.size = 6 := by kernel_rfl
@[go_sem] theorem T101_bytes : T101.bytes = 128 := by kernel_rfl
@[go_sem] theorem T101_cells : zeroCells T101.zero = some [.d (.int .i64 0), .d .nilslice, .d .nilslice, .d .nilslice, .d .nilslice, .d .nilslice] := by kernel_rfl
@[go_sem] theorem T101_zero : zeroPV T101 = some (.d (.agg [(.int .i64 0), .nilslice, .nilslice, .nilslice, .nilslice, .nilslice])) := by kernel_rfl
@[go_sem] theorem T101_ok : zeroOk T101 = true := by kernel_rfl
noncomputable def T102 : Ty := (tyOf Tryd.prog 102).getD ⟨.invalid, 0, 0, none⟩
@[go_sem] theorem ty102 : tyOf Tryd.prog 102 = some T102 := by kernel_rfl
noncomputable def fs102 : Array Field := match T102.desc with | .struct fs => fs | _ => #[]
@[go_sem] theorem T102_desc : T102.desc = .struct fs102 := by kernel_rfl
noncomputable def fs102_0 : Field := fs102.getD 0 default
@[go_sem] theorem fs102_at0 : fs102[0]? = some fs102_0 := by kernel_rfl
@[go_sem] theorem fs102_0_type : fs102_0.type = 3 := by kernel_rfl
@[go_sem] theorem fs102_0_off : fs102_0.offset = 0 := by kernel_rfl
@[go_sem] theorem fo102_0 : fieldOf Tryd.prog 102 0 = some (0, 1) := by kernel_rfl
noncomputable def fs102_1 : Field := fs102.getD 1 default
@[go_sem] theorem fs102_at1 : fs102[1]? = some fs102_1 := by kernel_rfl
@[go_sem] theorem fs102_1_type : fs102_1.type = 22 := by kernel_rfl
@[go_sem] theorem fs102_1_off : fs102_1.offset = 1 := by kernel_rfl
@[go_sem] theorem fo102_1 : fieldOf Tryd.prog 102 1 = some (1, 1) := by kernel_rfl
noncomputable def fs102_2 : Field := fs102.getD 2 default
@[go_sem] theorem fs102_at2 : fs102[2]? = some fs102_2 := by kernel_rfl
@[go_sem] theorem fs102_2_type : fs102_2.type = 22 := by kernel_rfl
@[go_sem] theorem fs102_2_off : fs102_2.offset = 2 := by kernel_rfl
@[go_sem] theorem fo102_2 : fieldOf Tryd.prog 102 2 = some (2, 1) := by kernel_rfl
noncomputable def fs102_3 : Field := fs102.getD 3 default
@[go_sem] theorem fs102_at3 : fs102[3]? = some fs102_3 := by kernel_rfl
@[go_sem] theorem fs102_3_type : fs102_3.type = 78 := by kernel_rfl
@[go_sem] theorem fs102_3_off : fs102_3.offset = 3 := by kernel_rfl
@[go_sem] theorem fo102_3 : fieldOf Tryd.prog 102 3 = some (3, 3) := by kernel_rfl
@[go_sem] theorem pl102 : placesOf Tryd.prog fs102.toList = some [(0, 1), (1, 1), (2, 1), (3, 3)] := by kernel_rfl
@[go_sem] theorem T102_size : T102.size = 6 := by kernel_rfl
@[go_sem] theorem T102_bytes : T102.bytes = 128 := by kernel_rfl
@[go_sem] theorem T102_cells : zeroCells T102.zero = some [.d (.int .i64 0), .d .nilslice, .d .nilslice, .d .nilslice, .d .nilslice, .d .nilslice] := by kernel_rfl
@[go_sem] theorem T102_zero : zeroPV T102 = some (.d (.agg [(.int .i64 0), .nilslice, .nilslice, .nilslice, .nilslice, .nilslice])) := by kernel_rfl
@[go_sem] theorem T102_ok : zeroOk T102 = true := by kernel_rfl
noncomputable def T103 : Ty := (tyOf Tryd.prog 103).getD ⟨.invalid, 0, 0, none⟩
@[go_sem] theorem ty103 : tyOf Tryd.prog 103 = some T103 := by kernel_rfl
@[go_sem] theorem T103_desc : T103.desc = .func #[3, 3, 3] #[26, 4] false := by kernel_rfl
@[go_sem] theorem T103_size : T103.size = 1 := by kernel_rfl
@[go_sem] theorem T103_bytes : T103.bytes = 8 := by kernel_rfl
@[go_sem] theorem T103_zero : zeroPV T103 = some (.d .nilfunc) := by kernel_rfl
@[go_sem] theorem T103_ok : zeroOk T103 = true := by kernel_rfl
noncomputable def T104 : Ty := (tyOf Tryd.prog 104).getD ⟨.invalid, 0, 0, none⟩
@[go_sem] theorem ty104 : tyOf Tryd.prog 104 = some T104 := by kernel_rfl
@[go_sem] theorem T104_desc : T104.desc = .func #[22, 26] #[3] false := by kernel_rfl
@[go_sem] theorem T104_size : T104.size = 1 := by kernel_rfl
@[go_sem] theorem T104_bytes : T104.bytes = 8 := by kernel_rfl
@[go_sem] theorem T104_zero : zeroPV T104 = some (.d .nilfunc) := by kernel_rfl
@[go_sem] theorem T104_ok : zeroOk T104 = true := by kernel_rfl
noncomputable def T105 : Ty := (tyOf Tryd.prog 105).getD ⟨.invalid, 0, 0, none⟩
@[go_sem] theorem ty105 : tyOf Tryd.prog 105 = some T105 := by kernel_rfl
@[go_sem] theorem T105_desc : T105.desc = .func #[3] #[4] false := by kernel_rfl
@[go_sem] theorem T105_size : T105.size = 1 := by kernel_rfl
@[go_sem] theorem T105_bytes : T105.bytes = 8 := by kernel_rfl
@[go_sem] theorem T105_zero : zeroPV T105 = some (.d .nilfunc) := by kernel_rfl
@[go_sem] theorem T105_ok : zeroOk T105 = true := by kernel_rfl
noncomputable def T106 : Ty := (tyOf Tryd.prog 106).getD ⟨.invalid, 0, 0, none⟩
@[go_sem] theorem ty106 : tyOf Tryd.prog 106 = some T106 := by kernel_rfl
@[go_sem] theorem T106_desc : T106.desc = .func #[32, 108] #[4] false := by kernel_rfl
@[go_sem] theorem T106_size : T106.size = 1 := by kernel_rfl
@[go_sem] theorem T106_bytes : T106.bytes = 8 := by kernel_rfl
@[go_sem] theorem T106_zero : zeroPV T106 = some (.d .nilfunc) := by kernel_rfl
@[go_sem] theorem T106_ok : zeroOk T106 = true := by kernel_rfl
noncomputable def T107 : Ty := (tyOf Tryd.prog 107).getD ⟨.invalid, 0, 0, none⟩
@[go_sem] theorem ty107 : tyOf Tryd.prog 107 = some T107 := by kernel_rfl
@[go_sem] theorem T107_desc : T107.desc = .func #[3, 32, 37] #[4] false := by kernel_rfl
@[go_sem] theorem T107_size : T107.size = 1 := by kernel_rfl
@[go_sem] theorem T107_bytes : T107.bytes = 8 := by kernel_rfl
@[go_sem] theorem T107_zero : zeroPV T107 = some (.d .nilfunc) := by kernel_rfl
@[go_sem] theorem T107_ok : zeroOk T107 = true := by kernel_rfl
noncomputable def T108 : Ty := (tyOf Tryd.prog 108).getD ⟨.invalid, 0, 0, none⟩
@[go_sem] theorem ty108 : tyOf Tryd.prog 108 = some T108 := by kernel_rfl
@[go_sem] theorem T108_desc : T108.desc = .func #[37] #[4] false := by kernel_rfl
@[go_sem] theorem T108_size : T108.size = 1 := by kernel_rfl
@[go_sem] theorem T108_bytes : T108.bytes = 8 := by kernel_rfl
@[go_sem] theorem T108_zero : zeroPV T108 = some (.d .nilfunc) := by kernel_rfl
@[go_sem] theorem T108_ok : zeroOk T108 = true := by kernel_rfl
noncomputable def T109 : Ty := (tyOf Tryd.prog 109).getD ⟨.invalid, 0, 0, none⟩
@[go_sem] theorem ty109 : tyOf Tryd.prog 109 = some T109 := by kernel_rfl
@[go_sem] theorem T109_desc : T109.desc = .func #[26, 105] #[3] false := by kernel_rfl
@[go_sem] theorem T109_size : T109.size = 1 := by kernel_rfl
@[go_sem] theorem T109_bytes : T109.bytes = 8 := by kernel_rfl
@[go_sem] theorem T109_zero : zeroPV T109 = some (.d .nilfunc) := by kernel_rfl
@[go_sem] theorem T109_ok : zeroOk T109 = true := by kernel_rfl
noncomputable def T110 : Ty := (tyOf Tryd.prog 110).getD ⟨.invalid, 0, 0, none⟩
@[go_sem] theorem ty110 : tyOf Tryd.prog 110 = some T110 := by kernel_rfl
@[go_sem] theorem T110_desc : T110.desc = .func #[3, 32] #[4] false := by kernel_rfl
@[go_sem] theorem T110_size : T110.size = 1 := by kernel_rfl
@[go_sem] theorem T110_bytes : T110.bytes = 8 := by kernel_rfl
@[go_sem] theorem T110_zero : zeroPV T110 = some (.d .nilfunc) := by kernel_rfl
@[go_sem] theorem T110_ok : zeroOk T110 = true := by kernel_rfl
noncomputable def T111 : Ty := (tyOf Tryd.prog 111).getD ⟨.invalid, 0, 0, none⟩
@[go_sem] theorem ty111 : tyOf Tryd.prog 111 = some T111 := by kernel_rfl
@[go_sem] theorem T111_desc : T111.desc = .func #[54] #[54] false := by kernel_rfl
@[go_sem] theorem T111_size : T111.size = 1 := by kernel_rfl
@[go_sem] theorem T111_bytes : T111.bytes = 8 := by kernel_rfl
@[go_sem] theorem T111_zero : zeroPV T111 = some (.d .nilfunc) := by kernel_rfl
@[go_sem] theorem T111_ok : zeroOk T111 = true := by kernel_rfl
noncomputable def T112 : Ty := (tyOf Tryd.prog 112).getD ⟨.invalid, 0, 0, none⟩
@[go_sem] theorem ty112 : tyOf Tryd.prog 112 = some T112 := by kernel_rfl
@[go_sem] theorem T112_desc : T112.desc = .func #[22, 3, 3] #[22] false := by kernel_rfl
@[go_sem] theorem T112_size : T112.size = 1 := by kernel_rfl
@[go_sem] theorem T112_bytes : T112.bytes = 8 := by kernel_rfl
@[go_sem] theorem T112_zero : zeroPV T112 = some (.d .nilfunc) := by kernel_rfl
@[go_sem] theorem T112_ok : zeroOk T112 = true := by kernel_rfl
noncomputable def T113 : Ty := (tyOf Tryd.prog 113).getD ⟨.invalid, 0, 0, none⟩
@[go_sem] theorem ty113 : tyOf Tryd.prog 113 = some T113 := by kernel_rfl
@[go_sem] theorem T113_desc : T113.desc = .slice 22 := by kernel_rfl
@[go_sem] theorem es113 : elemSize Tryd.prog 113 = some 1 := by kernel_rfl
@[go_sem] theorem T113_size : T113.size = 1 := by kernel_rfl
@[go_sem] theorem T113_bytes : T113.bytes = 24 := by kernel_rfl
@[go_sem] theorem T113_zero : zeroPV T113 = some (.d .nilslice) := by kernel_rfl
@[go_sem] theorem T113_ok : zeroOk T113 = true := by kernel_rfl
noncomputable def T114 : Ty := (tyOf Tryd.prog 114).getD ⟨.invalid, 0, 0, none⟩
@[go_sem] theorem ty114 : tyOf Tryd.prog 114 = some T114 := by kernel_rfl
@[go_sem] theorem T114_desc : T114.desc = .func #[22, 116] #[4] false := by kernel_rfl
@[go_sem] theorem T114_size : T114.size = 1 := by kernel_rfl
@[go_sem] theorem T114_bytes : T114.bytes = 8 := by kernel_rfl
@[go_sem] theorem T114_zero : zeroPV T114 = some (.d .nilfunc) := by kernel_rfl
@[go_sem] theorem T114_ok : zeroOk T114 = true := by kernel_rfl
noncomputable def T115 : Ty := (tyOf Tryd.prog 115).getD ⟨.invalid, 0, 0, none⟩
@[go_sem] theorem ty115 : tyOf Tryd.prog 115 = some T115 := by kernel_rfl
@[go_sem] theorem T115_desc : T115.desc = .func #[3, 56] #[4] false := by kernel_rfl
@[go_sem] theorem T115_size : T115.size = 1 := by kernel_rfl
@[go_sem] theorem T115_bytes : T115.bytes = 8 := by kernel_rfl
@[go_sem] theorem T115_zero : zeroPV T115 = some (.d .nilfunc) := by kernel_rfl
@[go_sem] theorem T115_ok : zeroOk T115 = true := by kernel_rfl
noncomputable def T116 : Ty := (tyOf Tryd.prog 116).getD ⟨.invalid, 0, 0, none⟩
@[go_sem] theorem ty116 : tyOf Tryd.prog 116 = some T116 := by kernel_rfl
@[go_sem] theorem T116_desc : T116.desc = .func #[56] #[4] false := by kernel_rfl
@[go_sem] theorem T116_size : T116.size = 1 := by kernel_rfl
@[go_sem] theorem T116_bytes : T116.bytes = 8 := by kernel_rfl
@[go_sem] theorem T116_zero : zeroPV T116 = some (.d .nilfunc) := by kernel_rfl
@[go_sem] theorem T116_ok : zeroOk T116 = true := by kernel_rfl
noncomputable def T117 : Ty := (tyOf Tryd.prog 117).getD ⟨.invalid, 0, 0, none⟩
@[go_sem] theorem ty117 : tyOf Tryd.prog 117 = some T117 := by kernel_rfl
@[go_sem] theorem T117_desc : T117.desc = .map 121 4 := by kernel_rfl
@[go_sem] theorem T117_size : T117.size = 1 := by kernel_rfl
@[go_sem] theorem T117_bytes : T117.bytes = 8 := by kernel_rfl
@[go_sem] theorem T117_zero : zeroPV T117 = some (.d .nilmap) := by kernel_rfl
@[go_sem] theorem T117_ok : zeroOk T117 = true := by kernel_rfl
noncomputable def T118 : Ty := (tyOf Tryd.prog 118).getD ⟨.invalid, 0, 0, none⟩
@[go_sem] theorem ty118 : tyOf Tryd.prog 118 = some T118 := by kernel_rfl
@[go_sem] theorem T118_desc : T118.desc = .func #[3, 95, 95] #[26, 4] false := by kernel_rfl
@[go_sem] theorem T118_size : T118.size = 1 := by kernel_rfl
@[go_sem] theorem T118_bytes : T118.bytes = 8 := by kernel_rfl
@[go_sem] theorem T118_zero : zeroPV T118 = some (.d .nilfunc) := by kernel_rfl
@[go_sem] theorem T118_ok : zeroOk T118 = true := by kernel_rfl
noncomputable def T119 : Ty := (tyOf Tryd.prog 119).getD ⟨.invalid, 0, 0, none⟩
@[go_sem] theorem ty119 : tyOf Tryd.prog 119 = some T119 := by kernel_rfl
@[go_sem] theorem T119_desc : T119.desc = .func #[] #[3] false := by kernel_rfl
@[go_sem] theorem T119_size : T119.size = 1 := by kernel_rfl
@[go_sem] theorem T119_bytes : T119.bytes = 8 := by kernel_rfl
@[go_sem] theorem T119_zero : zeroPV T119 = some (.d .nilfunc) := by kernel_rfl
@[go_sem] theorem T119_ok : zeroOk T119 = true := by kernel_rfl
noncomputable def T120 : Ty := (tyOf Tryd.prog 120).getD ⟨.invalid, 0, 0, none⟩
@[go_sem] theorem ty120 : tyOf Tryd.prog 120 = some T120 := by kernel_rfl
@[go_sem] theorem egt120 : Tryd.prog.eqGuardType Tryd.prog.depth 120 = false := by kernel_rfl
@[go_sem] theorem T120_desc : T120.desc = .array 3 3 := by kernel_rfl
@[go_sem] theorem es120 : elemSize Tryd.prog 120 = none := by kernel_rfl
@[go_sem] theorem ars120 : arrSize Tryd.prog 120 = some (3, 1) := by kernel_rfl
@[go_sem] theorem T120_size : T120.size = 3 := by kernel_rfl
@[go_sem] theorem T120_bytes : T120.bytes = 24 := by kernel_rfl
@[go_sem] theorem T120_cells : zeroCells T120.zero = some [.d (.int .i64 0), .d (.int .i64 0), .d (.int .i64 0)] := by kernel_rfl
@[go_sem] theorem T120_zero : zeroPV T120 = some (.d (.agg [(.int .i64 0), (.int .i64 0), (.int .i64 0)])) := by kernel_rfl
@[go_sem] theorem T120_ok : zeroOk T120 = true := by kernel_rfl
noncomputable def T121 : Ty := (tyOf Tryd.prog 121).getD ⟨.invalid, 0, 0, none⟩
@[go_sem] theorem ty121 : tyOf Tryd.prog 121 = some T121 := by kernel_rfl
@[go_sem] theorem egt121 : Tryd.prog.eqGuardType Tryd.prog.depth 121 = false := by kernel_rfl
@[go_sem] theorem T121_desc : T121.desc = .array 3 3 := by kernel_rfl
@[go_sem] theorem es121 : elemSize Tryd.prog 121 = none := by kernel_rfl
@[go_sem] theorem ars121 : arrSize Tryd.prog 121 = some (3, 1) := by kernel_rfl
@[go_sem] theorem T121_size : T121.size = 3 := by kernel_rfl
@[go_sem] theorem T121_bytes : T121.bytes = 24 := by kernel_rfl
@[go_sem] theorem T121_cells : zeroCells T121.zero = some [.d (.int .i64 0), .d (.int .i64 0), .d (.int .i64 0)] := by kernel_rfl
@[go_sem] theorem T121_zero : zeroPV T121 = some (.d (.agg [(.int .i64 0), (.int .i64 0), (.int .i64 0)])) := by kernel_rfl
@[go_sem] theorem T121_ok : zeroOk T121 = true := by kernel_rfl
noncomputable def T122 : Ty := (tyOf Tryd.prog 122).getD ⟨.invalid, 0, 0, none⟩
@[go_sem] theorem ty122 : tyOf Tryd.prog 122 = some T122 := by kernel_rfl
@[go_sem] theorem T122_desc : T122.desc = .func #[3, 113] #[26] true := by kernel_rfl
@[go_sem] theorem T122_size : T122.size = 1 := by kernel_rfl
@[go_sem] theorem T122_bytes : T122.bytes = 8 := by kernel_rfl
@[go_sem] theorem T122_zero : zeroPV T122 = some (.d .nilfunc) := by kernel_rfl
@[go_sem] theorem T122_ok : zeroOk T122 = true := by kernel_rfl
noncomputable def T123 : Ty := (tyOf Tryd.prog 123).getD ⟨.invalid, 0, 0, none⟩
@[go_sem] theorem ty123 : tyOf Tryd.prog 123 = some T123 := by kernel_rfl
@[go_sem] theorem T123_desc : T123.desc = .func #[22, 3, 3] #[95] false := by kernel_rfl
@[go_sem] theorem T123_size : T123.size = 1 := by kernel_rfl
@[go_sem] theorem T123_bytes : T123.bytes = 8 := by kernel_rfl
@[go_sem] theorem T123_zero : zeroPV T123 = some (.d .nilfunc) := by kernel_rfl
@[go_sem] theorem T123_ok : zeroOk T123 = true := by kernel_rfl
noncomputable def T124 : Ty := (tyOf Tryd.prog 124).getD ⟨.invalid, 0, 0, none⟩
@[go_sem] theorem ty124 : tyOf Tryd.prog 124 = some T124 := by kernel_rfl
@[go_sem] theorem T124_desc : T124.desc = .func #[3] #[3] false := by kernel_rfl
@[go_sem] theorem T124_size : T124.size = 1 := by kernel_rfl
@[go_sem] theorem T124_bytes : T124.bytes = 8 := by kernel_rfl
@[go_sem] theorem T124_zero : zeroPV T124 = some (.d .nilfunc) := by kernel_rfl
@[go_sem] theorem T124_ok : zeroOk T124 = true := by kernel_rfl
noncomputable def T125 : Ty := (tyOf Tryd.prog 125).getD ⟨.invalid, 0, 0, none⟩
@[go_sem] theorem ty125 : tyOf Tryd.prog 125 = some T125 := by kernel_rfl
@[go_sem] theorem T125_desc : T125.desc = .func #[120] #[3] false := by kernel_rfl
@[go_sem] theorem T125_size : T125.size = 1 := by kernel_rfl
@[go_sem] theorem T125_bytes : T125.bytes = 8 := by kernel_rfl
@[go_sem] theorem T125_zero : zeroPV T125 = some (.d .nilfunc) := by kernel_rfl
@[go_sem] theorem T125_ok : zeroOk T125 = true := by kernel_rfl
noncomputable def T126 : Ty := (tyOf Tryd.prog 126).getD ⟨.invalid, 0, 0, none⟩
@[go_sem] theorem ty126 : tyOf Tryd.prog 126 = some T126 := by kernel_rfl
@[go_sem] theorem T126_desc : T126.desc = .func #[120] #[] false := by kernel_rfl
@[go_sem] theorem T126_size : T126.size = 1 := by kernel_rfl
@[go_sem] theorem T126_bytes : T126.bytes = 8 := by kernel_rfl
@[go_sem] theorem T126_zero : zeroPV T126 = some (.d .nilfunc) := by kernel_rfl
@[go_sem] theorem T126_ok : zeroOk T126 = true := by kernel_rfl
noncomputable def T127 : Ty := (tyOf Tryd.prog 127).getD ⟨.invalid, 0, 0, none⟩
@[go_sem] theorem ty127 : tyOf Tryd.prog 127 = some T127 := by kernel_rfl
@[go_sem] theorem T127_desc : T127.desc = .func #[26, 3] #[26] false := by kernel_rfl
@[go_sem] theorem T127_size : T127.size = 1 := by kernel_rfl
@[go_sem] theorem T127_bytes : T127.bytes = 8 := by kernel_rfl
@[go_sem] theorem T127_zero : zeroPV T127 = some (.d .nilfunc) := by kernel_rfl
@[go_sem] theorem T127_ok : zeroOk T127 = true := by kernel_rfl
noncomputable def T128 : Ty := (tyOf Tryd.prog 128).getD ⟨.invalid, 0, 0, none⟩
@[go_sem] theorem ty128 : tyOf Tryd.prog 128 = some T128 := by kernel_rfl
@[go_sem] theorem T128_desc : T128.desc = .func #[37] #[3] false := by kernel_rfl
@[go_sem] theorem T128_size : T128.size = 1 := by kernel_rfl
@[go_sem] theorem T128_bytes : T128.bytes = 8 := by kernel_rfl
@[go_sem] theorem T128_zero : zeroPV T128 = some (.d .nilfunc) := by kernel_rfl
@[go_sem] theorem T128_ok : zeroOk T128 = true := by kernel_rfl
noncomputable def T129 : Ty := (tyOf Tryd.prog 129).getD ⟨.invalid, 0, 0, none⟩
@[go_sem] theorem ty129 : tyOf Tryd.prog 129 = some T129 := by kernel_rfl
@[go_sem] theorem T129_desc : T129.desc = .func #[95] #[3] false := by kernel_rfl
@[go_sem] theorem T129_size : T129.size = 1 := by kernel_rfl
@[go_sem] theorem T129_bytes : T129.bytes = 8 := by kernel_rfl
@[go_sem] theorem T129_zero : zeroPV T129 = some (.d .nilfunc) := by kernel_rfl
@[go_sem] theorem T129_ok : zeroOk T129 = true := by kernel_rfl
noncomputable def T132 : Ty := (tyOf Tryd.prog 132).getD ⟨.invalid, 0, 0, none⟩
@[go_sem] theorem ty132 : tyOf Tryd.prog 132 = some T132 := by kernel_rfl
@[go_sem] theorem T132_desc : T132.desc = .func #[26, 26] #[26, 26] false := by kernel_rfl
@[go_sem] theorem T132_size : T132.size = 1 := by kernel_rfl
@[go_sem] theorem T132_bytes : T132.bytes = 8 := by kernel_rfl
@[go_sem] theorem T132_zero : zeroPV T132 = some (.d .nilfunc) := by kernel_rfl
@[go_sem] theorem T132_ok : zeroOk T132 = true := by kernel_rfl
noncomputable def T133 : Ty := (tyOf Tryd.prog 133).getD ⟨.invalid, 0, 0, none⟩
@[go_sem] theorem ty133 : tyOf Tryd.prog 133 = some T133 := by kernel_rfl
@[go_sem] theorem T133_desc : T133.desc = .map 3 3 := by kernel_rfl
@[go_sem] theorem T133_size : T133.size = 1 := by kernel_rfl
@[go_sem] theorem T133_bytes : T133.bytes = 8 := by kernel_rfl
@[go_sem] theorem T133_zero : zeroPV T133 = some (.d .nilmap) := by kernel_rfl
@[go_sem] theorem T133_ok : zeroOk T133 = true := by kernel_rfl
noncomputable def T134 : Ty := (tyOf Tryd.prog 134).getD ⟨.invalid, 0, 0, none⟩
@[go_sem] theorem ty134 : tyOf Tryd.prog 134 = some T134 := by kernel_rfl
@[go_sem] theorem T134_desc : T134.desc = .func #[26] #[26] false := by kernel_rfl
@[go_sem] theorem T134_size : T134.size = 1 := by kernel_rfl
@[go_sem] theorem T134_bytes : T134.bytes = 8 := by kernel_rfl
@[go_sem] theorem T134_zero : zeroPV T134 = some (.d .nilfunc) := by kernel_rfl
@[go_sem] theorem T134_ok : zeroOk T134 = true := by kernel_rfl
noncomputable def T135 : Ty := (tyOf Tryd.prog 135).getD ⟨.invalid, 0, 0, none⟩
@[go_sem] theorem ty135 : tyOf Tryd.prog 135 = some T135 := by kernel_rfl
@[go_sem] theorem T135_desc : T135.desc = .map 121 26 := by kernel_rfl
@[go_sem] theorem T135_size : T135.size = 1 := by kernel_rfl
@[go_sem] theorem T135_bytes : T135.bytes = 8 := by kernel_rfl
@[go_sem] theorem T135_zero : zeroPV T135 = some (.d .nilmap) := by kernel_rfl
@[go_sem] theorem T135_ok : zeroOk T135 = true := by kernel_rfl
noncomputable def T136 : Ty := (tyOf Tryd.prog 136).getD ⟨.invalid, 0, 0, none⟩
@[go_sem] theorem ty136 : tyOf Tryd.prog 136 = some T136 := by kernel_rfl
@[go_sem] theorem T136_desc : T136.desc = .func #[3, 95] #[26] false := by kernel_rfl
@[go_sem] theorem T136_size : T136.size = 1 := by kernel_rfl
@[go_sem] theorem T136_bytes : T136.bytes = 8 := by kernel_rfl
@[go_sem] theorem T136_zero : zeroPV T136 = some (.d .nilfunc) := by kernel_rfl
@[go_sem] theorem T136_ok : zeroOk T136 = true := by kernel_rfl
noncomputable def T137 : Ty := (tyOf Tryd.prog 137).getD ⟨.invalid, 0, 0, none⟩
@[go_sem] theorem ty137 : tyOf Tryd.prog 137 = some T137 := by kernel_rfl
@[go_sem] theorem T137_desc : T137.desc = .func #[22, 3] #[3] false := by kernel_rfl
@[go_sem] theorem T137_size : T137.size = 1 := by kernel_rfl
@[go_sem] theorem T137_bytes : T137.bytes = 8 := by kernel_rfl
@[go_sem] theorem T137_zero : zeroPV T137 = some (.d .nilfunc) := by kernel_rfl
@[go_sem] theorem T137_ok : zeroOk T137 = true := by kernel_rfl
noncomputable def T138 : Ty := (tyOf Tryd.prog 138).getD ⟨.invalid, 0, 0, none⟩
@[go_sem] theorem ty138 : tyOf Tryd.prog 138 = some T138 := by kernel_rfl
@[go_sem] theorem T138_desc : T138.desc = .func #[26, 105] #[4] false := by kernel_rfl
@[go_sem] theorem T138_size : T138.size = 1 := by kernel_rfl
@[go_sem] theorem T138_bytes : T138.bytes = 8 := by kernel_rfl
@[go_sem] theorem T138_zero : zeroPV T138 = some (.d .nilfunc) := by kernel_rfl
@[go_sem] theorem T138_ok : zeroOk T138 = true := by kernel_rfl
noncomputable def T139 : Ty := (tyOf Tryd.prog 139).getD ⟨.invalid, 0, 0, none⟩
@[go_sem] theorem ty139 : tyOf Tryd.prog 139 = some T139 := by kernel_rfl
@[go_sem] theorem T139_desc : T139.desc = .func #[22, 116] #[3] false := by kernel_rfl
@[go_sem] theorem T139_size : T139.size = 1 := by kernel_rfl
@[go_sem] theorem T139_bytes : T139.bytes = 8 := by kernel_rfl
@[go_sem] theorem T139_zero : zeroPV T139 = some (.d .nilfunc) := by kernel_rfl
@[go_sem] theorem T139_ok : zeroOk T139 = true := by kernel_rfl
noncomputable def T140 : Ty := (tyOf Tryd.prog 140).getD ⟨.invalid, 0, 0, none⟩
@[go_sem] theorem ty140 : tyOf Tryd.prog 140 = some T140 := by kernel_rfl
@[go_sem] theorem T140_desc : T140.desc = .func #[56, 26] #[4] false := by kernel_rfl
@[go_sem] theorem T140_size : T140.size = 1 := by kernel_rfl
@[go_sem] theorem T140_bytes : T140.bytes = 8 := by kernel_rfl
@[go_sem] theorem T140_zero : zeroPV T140 = some (.d .nilfunc) := by kernel_rfl
@[go_sem] theorem T140_ok : zeroOk T140 = true := by kernel_rfl
noncomputable def T141 : Ty := (tyOf Tryd.prog 141).getD ⟨.invalid, 0, 0, none⟩
@[go_sem] theorem ty141 : tyOf Tryd.prog 141 = some T141 := by kernel_rfl
@[go_sem] theorem T141_desc : T141.desc = .func #[32, 108] #[3] false := by kernel_rfl
@[go_sem] theorem T141_size : T141.size = 1 := by kernel_rfl
@[go_sem] theorem T141_bytes : T141.bytes = 8 := by kernel_rfl
@[go_sem] theorem T141_zero : zeroPV T141 = some (.d .nilfunc) := by kernel_rfl
@[go_sem] theorem T141_ok : zeroOk T141 = true := by kernel_rfl
noncomputable def T142 : Ty := (tyOf Tryd.prog 142).getD ⟨.invalid, 0, 0, none⟩
@[go_sem] theorem ty142 : tyOf Tryd.prog 142 = some T142 := by kernel_rfl
@[go_sem] theorem T142_desc : T142.desc = .func #[61] #[4] false := by kernel_rfl
@[go_sem] theorem T142_size : T142.size = 1 := by kernel_rfl
@[go_sem] theorem T142_bytes : T142.bytes = 8 := by kernel_rfl
@[go_sem] theorem T142_zero : zeroPV T142 = some (.d .nilfunc) := by kernel_rfl
@[go_sem] theorem T142_ok : zeroOk T142 = true := by kernel_rfl
noncomputable def T143 : Ty := (tyOf Tryd.prog 143).getD ⟨.invalid, 0, 0, none⟩
@[go_sem] theorem ty143 : tyOf Tryd.prog 143 = some T143 := by kernel_rfl
@[go_sem] theorem T143_desc : T143.desc = .func #[54, 142] #[4] false := by kernel_rfl
@[go_sem] theorem T143_size : T143.size = 1 := by kernel_rfl
@[go_sem] theorem T143_bytes : T143.bytes = 8 := by kernel_rfl
@[go_sem] theorem T143_zero : zeroPV T143 = some (.d .nilfunc) := by kernel_rfl
@[go_sem] theorem T143_ok : zeroOk T143 = true := by kernel_rfl
noncomputable def T144 : Ty := (tyOf Tryd.prog 144).getD ⟨.invalid, 0, 0, none⟩
@[go_sem] theorem ty144 : tyOf Tryd.prog 144 = some T144 := by kernel_rfl
@[go_sem] theorem T144_desc : T144.desc = .func #[26] #[] false := by kernel_rfl
@[go_sem] theorem T144_size : T144.size = 1 := by kernel_rfl
@[go_sem] theorem T144_bytes : T144.bytes = 8 := by kernel_rfl
@[go_sem] theorem T144_zero : zeroPV T144 = some (.d .nilfunc) := by kernel_rfl
@[go_sem] theorem T144_ok : zeroOk T144 = true := by kernel_rfl
noncomputable def T145 : Ty := (tyOf Tryd.prog 145).getD ⟨.invalid, 0, 0, none⟩
@[go_sem] theorem ty145 : tyOf Tryd.prog 145 = some T145 := by kernel_rfl
@[go_sem] theorem T145_desc : T145.desc = .pointer 78 := by kernel_rfl
@[go_sem] theorem T145_size : T145.size = 1 := by kernel_rfl
@[go_sem] theorem T145_bytes : T145.bytes = 8 := by kernel_rfl
@[go_sem] theorem T145_zero : zeroPV T145 = some (.d .nilptr) := by kernel_rfl
@[go_sem] theorem T145_ok : zeroOk T145 = true := by kernel_rfl
noncomputable def T146 : Ty := (tyOf Tryd.prog 146).getD ⟨.invalid, 0, 0, none⟩
@[go_sem] theorem ty146 : tyOf Tryd.prog 146 = some T146 := by kernel_rfl
@[go_sem] theorem T146_desc : T146.desc = .pointer 148 := by kernel_rfl
@[go_sem] theorem T146_size : T146.size = 1 := by kernel_rfl
@[go_sem] theorem T146_bytes : T146.bytes = 8 := by kernel_rfl
@[go_sem] theorem T146_zero : zeroPV T146 = some (.d .nilptr) := by kernel_rfl
@[go_sem] theorem T146_ok : zeroOk T146 = true := by kernel_rfl
noncomputable def T147 : Ty := (tyOf Tryd.prog 147).getD ⟨.invalid, 0, 0, none⟩
@[go_sem] theorem ty147 : tyOf Tryd.prog 147 = some T147 := by kernel_rfl
noncomputable def fs147 : Array Field := match T147.desc with | .struct fs => fs | _ => #[]
@[go_sem] theorem T147_desc : T147.desc = .struct fs147 := by kernel_rfl
noncomputable def fs147_0 : Field := fs147.getD 0 default
@[go_sem] theorem fs147_at0 : fs147[0]? = some fs147_0 := by kernel_rfl
@[go_sem] theorem fs147_0_type : fs147_0.type = 146 := by kernel_rfl
@[go_sem] theorem fs147_0_off : fs147_0.offset = 0 := by kernel_rfl
@[go_sem] theorem fo147_0 : fieldOf Tryd.prog 147 0 = some (0, 1) := by kernel_rfl
noncomputable def fs147_1 : Field := fs147.getD 1 default
@[go_sem] theorem fs147_at1 : fs147[1]? = some fs147_1 := by kernel_rfl
@[go_sem] theorem fs147_1_type : fs147_1.type = 52 := by kernel_rfl
@[go_sem] theorem fs147_1_off : fs147_1.offset = 1 := by kernel_rfl
@[go_sem] theorem fo147_1 : fieldOf Tryd.prog 147 1 = some (1, 1) := by kernel_rfl
@[go_sem] theorem pl147 : placesOf Tryd.prog fs147.toList = some [(0, 1), (1, 1)] := by kernel_rfl
@[go_sem] theorem T147_size : T147.size = 2 := by kernel_rfl
@[go_sem] theorem T147_bytes : T147.bytes = 32 := by kernel_rfl
@[go_sem] theorem T147_cells : zeroCells T147.zero = some [.d .nilptr, .d .nilslice] := by kernel_rfl
@[go_sem] theorem T147_zero : zeroPV T147 = some (.d (.agg [.nilptr, .nilslice])) := by kernel_rfl
@[go_sem] theorem T147_ok : zeroOk T147 = true := by kernel_rfl
noncomputable def T148 : Ty := (tyOf Tryd.prog 148).getD ⟨.invalid, 0, 0, none⟩
@[go_sem] theorem ty148 : tyOf Tryd.prog 148 = some T148 := by kernel_rfl
noncomputable def fs148 : Array Field := match T148.desc with | .struct fs => fs | _ => #[]
@[go_sem] theorem T148_desc : T148.desc = .struct fs148 := by kernel_rfl
noncomputable def fs148_0 : Field := fs148.getD 0 default
@[go_sem] theorem fs148_at0 : fs148[0]? = some fs148_0 := by kernel_rfl
@[go_sem] theorem fs148_0_type : fs148_0.type = 146 := by kernel_rfl
@[go_sem] theorem fs148_0_off : fs148_0.offset = 0 := by kernel_rfl
@[go_sem] theorem fo148_0 : fieldOf Tryd.prog 148 0 = some (0, 1) := by kernel_rfl
noncomputable def fs148_1 : Field := fs148.getD 1 default
@[go_sem] theorem fs148_at1 : fs148[1]? = some fs148_1 := by kernel_rfl
@[go_sem] theorem fs148_1_type : fs148_1.type = 52 := by kernel_rfl
@[go_sem] theorem fs148_1_off : fs148_1.offset = 1 := by kernel_rfl
@[go_sem] theorem fo148_1 : fieldOf Tryd.prog 148 1 = some (1, 1) := by kernel_rfl
@[go_sem] theorem pl148 : placesOf Tryd.prog fs148.toList = some [(0, 1), (1, 1)] := by kernel_rfl
@[go_sem] theorem T148_size : T148.size = 2 := by kernel_rfl
@[go_sem] theorem T148_bytes : T148.bytes = 32 := by kernel_rfl
@[go_sem] theorem T148_cells : zeroCells T148.zero = some [.d .nilptr, .d .nilslice] := by kernel_rfl
@[go_sem] theorem T148_zero : zeroPV T148 = some (.d (.agg [.nilptr, .nilslice])) := by kernel_rfl
@[go_sem] theorem T148_ok : zeroOk T148 = true := by kernel_rfl
noncomputable def T150 : Ty := (tyOf Tryd.prog 150).getD ⟨.invalid, 0, 0, none⟩
@[go_sem] theorem ty150 : tyOf Tryd.prog 150 = some T150 := by kernel_rfl
@[go_sem] theorem T150_size : T150.size = 1 := by kernel_rfl
@[go_sem] theorem T150_bytes : T150.bytes = 16 := by kernel_rfl
@[go_sem] theorem T150_zero : zeroPV T150 = some (.d .niliface) := by kernel_rfl
@[go_sem] theorem T150_ok : zeroOk T150 = true := by kernel_rfl
noncomputable def T152 : Ty := (tyOf Tryd.prog 152).getD ⟨.invalid, 0, 0, none⟩
@[go_sem] theorem ty152 : tyOf Tryd.prog 152 = some T152 := by kernel_rfl
@[go_sem] theorem T152_desc : T152.desc = .func #[9] #[3, 150] false := by kernel_rfl
@[go_sem] theorem T152_size : T152.size = 1 := by kernel_rfl
@[go_sem] theorem T152_bytes : T152.bytes = 8 := by kernel_rfl
@[go_sem] theorem T152_zero : zeroPV T152 = some (.d .nilfunc) := by kernel_rfl
@[go_sem] theorem T152_ok : zeroOk T152 = true := by kernel_rfl
noncomputable def T153 : Ty := (tyOf Tryd.prog 153).getD ⟨.invalid, 0, 0, none⟩
@[go_sem] theorem ty153 : tyOf Tryd.prog 153 = some T153 := by kernel_rfl
@[go_sem] theorem T153_desc : T153.desc = .func #[3] #[9] false := by kernel_rfl
@[go_sem] theorem T153_size : T153.size = 1 := by kernel_rfl
@[go_sem] theorem T153_bytes : T153.bytes = 8 := by kernel_rfl
@[go_sem] theorem T153_zero : zeroPV T153 = some (.d .nilfunc) := by kernel_rfl
@[go_sem] theorem T153_ok : zeroOk T153 = true := by kernel_rfl
noncomputable def T154 : Ty := (tyOf Tryd.prog 154).getD ⟨.invalid, 0, 0, none⟩
@[go_sem] theorem ty154 : tyOf Tryd.prog 154 = some T154 := by kernel_rfl
@[go_sem] theorem T154_desc : T154.desc = .func #[5] #[150] false := by kernel_rfl
@[go_sem] theorem T154_size : T154.size = 1 := by kernel_rfl
@[go_sem] theorem T154_bytes : T154.bytes = 8 := by kernel_rfl
@[go_sem] theorem T154_zero : zeroPV T154 = some (.d .nilfunc) := by kernel_rfl
@[go_sem] theorem T154_ok : zeroOk T154 = true := by kernel_rfl
noncomputable def T155 : Ty := (tyOf Tryd.prog 155).getD ⟨.invalid, 0, 0, none⟩
@[go_sem] theorem ty155 : tyOf Tryd.prog 155 = some T155 := by kernel_rfl
@[go_sem] theorem T155_desc : T155.desc = .func #[] #[9] false := by kernel_rfl
@[go_sem] theorem T155_size : T155.size = 1 := by kernel_rfl
@[go_sem] theorem T155_bytes : T155.bytes = 8 := by kernel_rfl
@[go_sem] theorem T155_zero : zeroPV T155 = some (.d .nilfunc) := by kernel_rfl
@[go_sem] theorem T155_ok : zeroOk T155 = true := by kernel_rfl
noncomputable def T156 : Ty := (tyOf Tryd.prog 156).getD ⟨.invalid, 0, 0, none⟩
@[go_sem] theorem ty156 : tyOf Tryd.prog 156 = some T156 := by kernel_rfl
@[go_sem] theorem T156_desc : T156.desc = .func #[54, 142] #[3] false := by kernel_rfl
@[go_sem] theorem T156_size : T156.size = 1 := by kernel_rfl
@[go_sem] theorem T156_bytes : T156.bytes = 8 := by kernel_rfl
@[go_sem] theorem T156_zero : zeroPV T156 = some (.d .nilfunc) := by kernel_rfl
@[go_sem] theorem T156_ok : zeroOk T156 = true := by kernel_rfl
noncomputable def T157 : Ty := (tyOf Tryd.prog 157).getD ⟨.invalid, 0, 0, none⟩
@[go_sem] theorem ty157 : tyOf Tryd.prog 157 = some T157 := by kernel_rfl
@[go_sem] theorem T157_desc : T157.desc = .func #[26, 3, 3, 3] #[] false := by kernel_rfl
@[go_sem] theorem T157_size : T157.size = 1 := by kernel_rfl
@[go_sem] theorem T157_bytes : T157.bytes = 8 := by kernel_rfl
@[go_sem] theorem T157_zero : zeroPV T157 = some (.d .nilfunc) := by kernel_rfl
@[go_sem] theorem T157_ok : zeroOk T157 = true := by kernel_rfl
noncomputable def T158 : Ty := (tyOf Tryd.prog 158).getD ⟨.invalid, 0, 0, none⟩
@[go_sem] theorem ty158 : tyOf Tryd.prog 158 = some T158 := by kernel_rfl
@[go_sem] theorem T158_desc : T158.desc = .func #[159] #[3] false := by kernel_rfl
@[go_sem] theorem T158_size : T158.size = 1 := by kernel_rfl
@[go_sem] theorem T158_bytes : T158.bytes = 8 := by kernel_rfl
@[go_sem] theorem T158_zero : zeroPV T158 = some (.d .nilfunc) := by kernel_rfl
@[go_sem] theorem T158_ok : zeroOk T158 = true := by kernel_rfl
noncomputable def T159 : Ty := (tyOf Tryd.prog 159).getD ⟨.invalid, 0, 0, none⟩
@[go_sem] theorem ty159 : tyOf Tryd.prog 159 = some T159 := by kernel_rfl
@[go_sem] theorem T159_desc : T159.desc = .int .u64 := by kernel_rfl
@[go_sem] theorem T159_size : T159.size = 1 := by kernel_rfl
@[go_sem] theorem T159_bytes : T159.bytes = 8 := by kernel_rfl
@[go_sem] theorem T159_zero : zeroPV T159 = some (.d (.int .u64 0)) := by kernel_rfl
@[go_sem] theorem T159_ok : zeroOk T159 = true := by kernel_rfl
noncomputable def T160 : Ty := (tyOf Tryd.prog 160).getD ⟨.invalid, 0, 0, none⟩
@[go_sem] theorem ty160 : tyOf Tryd.prog 160 = some T160 := by kernel_rfl
@[go_sem] theorem T160_desc : T160.desc = .pointer 5 := by kernel_rfl
@[go_sem] theorem T160_size : T160.size = 1 := by kernel_rfl
@[go_sem] theorem T160_bytes : T160.bytes = 8 := by kernel_rfl
@[go_sem] theorem T160_zero : zeroPV T160 = some (.d .nilptr) := by kernel_rfl
@[go_sem] theorem T160_ok : zeroOk T160 = true := by kernel_rfl
noncomputable def T161 : Ty := (tyOf Tryd.prog 161).getD ⟨.invalid, 0, 0, none⟩
@[go_sem] theorem ty161 : tyOf Tryd.prog 161 = some T161 := by kernel_rfl
@[go_sem] theorem T161_desc : T161.desc = .func #[26, 3, 3] #[] false := by kernel_rfl
@[go_sem] theorem T161_size : T161.size = 1 := by kernel_rfl
@[go_sem] theorem T161_bytes : T161.bytes = 8 := by kernel_rfl
@[go_sem] theorem T161_zero : zeroPV T161 = some (.d .nilfunc) := by kernel_rfl
@[go_sem] theorem T161_ok : zeroOk T161 = true := by kernel_rfl
noncomputable def T162 : Ty := (tyOf Tryd.prog 162).getD ⟨.invalid, 0, 0, none⟩
@[go_sem] theorem ty162 : tyOf Tryd.prog 162 = some T162 := by kernel_rfl
@[go_sem] theorem T162_desc : T162.desc = .int .i64 := by kernel_rfl
@[go_sem] theorem T162_size : T162.size = 1 := by kernel_rfl
@[go_sem] theorem T162_bytes : T162.bytes = 8 := by kernel_rfl
@[go_sem] theorem T162_zero : zeroPV T162 = some (.d (.int .i64 0)) := by kernel_rfl
@[go_sem] theorem T162_ok : zeroOk T162 = true := by kernel_rfl
noncomputable def T164 : Ty := (tyOf Tryd.prog 164).getD ⟨.invalid, 0, 0, none⟩
@[go_sem] theorem ty164 : tyOf Tryd.prog 164 = some T164 := by kernel_rfl
@[go_sem] theorem T164_desc : T164.desc = .func #[26, 3, 3] #[3, 162] false := by kernel_rfl
@[go_sem] theorem T164_size : T164.size = 1 := by kernel_rfl
@[go_sem] theorem T164_bytes : T164.bytes = 8 := by kernel_rfl
@[go_sem] theorem T164_zero : zeroPV T164 = some (.d .nilfunc) := by kernel_rfl
@[go_sem] theorem T164_ok : zeroOk T164 = true := by kernel_rfl
noncomputable def T165 : Ty := (tyOf Tryd.prog 165).getD ⟨.invalid, 0, 0, none⟩
@[go_sem] theorem ty165 : tyOf Tryd.prog 165 = some T165 := by kernel_rfl
@[go_sem] theorem T165_desc : T165.desc = .func #[26, 3, 3] #[4] false := by kernel_rfl
@[go_sem] theorem T165_size : T165.size = 1 := by kernel_rfl
@[go_sem] theorem T165_bytes : T165.bytes = 8 := by kernel_rfl
@[go_sem] theorem T165_zero : zeroPV T165 = some (.d .nilfunc) := by kernel_rfl
@[go_sem] theorem T165_ok : zeroOk T165 = true := by kernel_rfl
noncomputable def T166 : Ty := (tyOf Tryd.prog 166).getD ⟨.invalid, 0, 0, none⟩
@[go_sem] theorem ty166 : tyOf Tryd.prog 166 = some T166 := by kernel_rfl
@[go_sem] theorem T166_desc : T166.desc = .func #[26, 3, 3, 3] #[3] false := by kernel_rfl
@[go_sem] theorem T166_size : T166.size = 1 := by kernel_rfl
@[go_sem] theorem T166_bytes : T166.bytes = 8 := by kernel_rfl
@[go_sem] theorem T166_zero : zeroPV T166 = some (.d .nilfunc) := by kernel_rfl
@[go_sem] theorem T166_ok : zeroOk T166 = true := by kernel_rfl
noncomputable def T167 : Ty := (tyOf Tryd.prog 167).getD ⟨.invalid, 0, 0, none⟩
@[go_sem] theorem ty167 : tyOf Tryd.prog 167 = some T167 := by kernel_rfl
@[go_sem] theorem T167_desc : T167.desc = .func #[26, 3, 3, 3] #[3, 4] false := by kernel_rfl
@[go_sem] theorem T167_size : T167.size = 1 := by kernel_rfl
@[go_sem] theorem T167_bytes : T167.bytes = 8 := by kernel_rfl
@[go_sem] theorem T167_zero : zeroPV T167 = some (.d .nilfunc) := by kernel_rfl
@[go_sem] theorem T167_ok : zeroOk T167 = true := by kernel_rfl
noncomputable def T168 : Ty := (tyOf Tryd.prog 168).getD ⟨.invalid, 0, 0, none⟩
@[go_sem] theorem ty168 : tyOf Tryd.prog 168 = some T168 := by kernel_rfl
@[go_sem] theorem T168_desc : T168.desc = .func #[94] #[3] false := by kernel_rfl
@[go_sem] theorem T168_size : T168.size = 1 := by kernel_rfl
@[go_sem] theorem T168_bytes : T168.bytes = 8 := by kernel_rfl
@[go_sem] theorem T168_zero : zeroPV T168 = some (.d .nilfunc) := by kernel_rfl
@[go_sem] theorem T168_ok : zeroOk T168 = true := by kernel_rfl
noncomputable def T169 : Ty := (tyOf Tryd.prog 169).getD ⟨.invalid, 0, 0, none⟩
@[go_sem] theorem ty169 : tyOf Tryd.prog 169 = some T169 := by kernel_rfl
@[go_sem] theorem T169_desc : T169.desc = .func #[170] #[3] false := by kernel_rfl
@[go_sem] theorem T169_size : T169.size = 1 := by kernel_rfl
@[go_sem] theorem T169_bytes : T169.bytes = 8 := by kernel_rfl
@[go_sem] theorem T169_zero : zeroPV T169 = some (.d .nilfunc) := by kernel_rfl
@[go_sem] theorem T169_ok : zeroOk T169 = true := by kernel_rfl
noncomputable def T170 : Ty := (tyOf Tryd.prog 170).getD ⟨.invalid, 0, 0, none⟩
@[go_sem] theorem ty170 : tyOf Tryd.prog 170 = some T170 := by kernel_rfl
@[go_sem] theorem T170_desc : T170.desc = .int .u64 := by kernel_rfl
@[go_sem] theorem T170_size : T170.size = 1 := by kernel_rfl
@[go_sem] theorem T170_bytes : T170.bytes = 8 := by kernel_rfl
@[go_sem] theorem T170_zero : zeroPV T170 = some (.d (.int .u64 0)) := by kernel_rfl
@[go_sem] theorem T170_ok : zeroOk T170 = true := by kernel_rfl
noncomputable def T172 : Ty := (tyOf Tryd.prog 172).getD ⟨.invalid, 0, 0, none⟩
@[go_sem] theorem ty172 : tyOf Tryd.prog 172 = some T172 := by kernel_rfl
@[go_sem] theorem T172_desc : T172.desc = .func #[171] #[171] false := by kernel_rfl
@[go_sem] theorem T172_size : T172.size = 1 := by kernel_rfl
@[go_sem] theorem T172_bytes : T172.bytes = 8 := by kernel_rfl
@[go_sem] theorem T172_zero : zeroPV T172 = some (.d .nilfunc) := by kernel_rfl
@[go_sem] theorem T172_ok : zeroOk T172 = true := by kernel_rfl
noncomputable def T173 : Ty := (tyOf Tryd.prog 173).getD ⟨.invalid, 0, 0, none⟩
@[go_sem] theorem ty173 : tyOf Tryd.prog 173 = some T173 := by kernel_rfl
@[go_sem] theorem T173_desc : T173.desc = .func #[2, 3] #[9] false := by kernel_rfl
@[go_sem] theorem T173_size : T173.size = 1 := by kernel_rfl
@[go_sem] theorem T173_bytes : T173.bytes = 8 := by kernel_rfl
@[go_sem] theorem T173_zero : zeroPV T173 = some (.d .nilfunc) := by kernel_rfl
@[go_sem] theorem T173_ok : zeroOk T173 = true := by kernel_rfl
noncomputable def T174 : Ty := (tyOf Tryd.prog 174).getD ⟨.invalid, 0, 0, none⟩
@[go_sem] theorem ty174 : tyOf Tryd.prog 174 = some T174 := by kernel_rfl
@[go_sem] theorem T174_desc : T174.desc = .int .u64 := by kernel_rfl
@[go_sem] theorem T174_size : T174.size = 1 := by kernel_rfl
@[go_sem] theorem T174_bytes : T174.bytes = 8 := by kernel_rfl
@[go_sem] theorem T174_zero : zeroPV T174 = some (.d (.int .u64 0)) := by kernel_rfl
@[go_sem] theorem T174_ok : zeroOk T174 = true := by kernel_rfl
noncomputable def T175 : Ty := (tyOf Tryd.prog 175).getD ⟨.invalid, 0, 0, none⟩
@[go_sem] theorem ty175 : tyOf Tryd.prog 175 = some T175 := by kernel_rfl
@[go_sem] theorem T175_desc : T175.desc = .func #[3] #[159] false := by kernel_rfl
@[go_sem] theorem T175_size : T175.size = 1 := by kernel_rfl
@[go_sem] theorem T175_bytes : T175.bytes = 8 := by kernel_rfl
@[go_sem] theorem T175_zero : zeroPV T175 = some (.d .nilfunc) := by kernel_rfl
@[go_sem] theorem T175_ok : zeroOk T175 = true := by kernel_rfl
noncomputable def T176 : Ty := (tyOf Tryd.prog 176).getD ⟨.invalid, 0, 0, none⟩
@[go_sem] theorem ty176 : tyOf Tryd.prog 176 = some T176 := by kernel_rfl
@[go_sem] theorem T176_desc : T176.desc = .func #[] #[170] false := by kernel_rfl
@[go_sem] theorem T176_size : T176.size = 1 := by kernel_rfl
@[go_sem] theorem T176_bytes : T176.bytes = 8 := by kernel_rfl
@[go_sem] theorem T176_zero : zeroPV T176 = some (.d .nilfunc) := by kernel_rfl
@[go_sem] theorem T176_ok : zeroOk T176 = true := by kernel_rfl
noncomputable def T177 : Ty := (tyOf Tryd.prog 177).getD ⟨.invalid, 0, 0, none⟩
@[go_sem] theorem ty177 : tyOf Tryd.prog 177 = some T177 := by kernel_rfl
@[go_sem] theorem T177_desc : T177.desc = .func #[26, 3, 178] #[3] false := by kernel_rfl
@[go_sem] theorem T177_size : T177.size = 1 := by kernel_rfl
@[go_sem] theorem T177_bytes : T177.bytes = 8 := by kernel_rfl
@[go_sem] theorem T177_zero : zeroPV T177 = some (.d .nilfunc) := by kernel_rfl
@[go_sem] theorem T177_ok : zeroOk T177 = true := by kernel_rfl
noncomputable def T178 : Ty := (tyOf Tryd.prog 178).getD ⟨.invalid, 0, 0, none⟩
@[go_sem] theorem ty178 : tyOf Tryd.prog 178 = some T178 := by kernel_rfl
@[go_sem] theorem T178_desc : T178.desc = .pointer 3 := by kernel_rfl
@[go_sem] theorem T178_size : T178.size = 1 := by kernel_rfl
@[go_sem] theorem T178_bytes : T178.bytes = 8 := by kernel_rfl
@[go_sem] theorem T178_zero : zeroPV T178 = some (.d .nilptr) := by kernel_rfl
@[go_sem] theorem T178_ok : zeroOk T178 = true := by kernel_rfl
noncomputable def T179 : Ty := (tyOf Tryd.prog 179).getD ⟨.invalid, 0, 0, none⟩
@[go_sem] theorem ty179 : tyOf Tryd.prog 179 = some T179 := by kernel_rfl
@[go_sem] theorem T179_desc : T179.desc = .func #[26, 3, 3, 3, 178] #[3] false := by kernel_rfl
@[go_sem] theorem T179_size : T179.size = 1 := by kernel_rfl
@[go_sem] theorem T179_bytes : T179.bytes = 8 := by kernel_rfl
@[go_sem] theorem T179_zero : zeroPV T179 = some (.d .nilfunc) := by kernel_rfl
@[go_sem] theorem T179_ok : zeroOk T179 = true := by kernel_rfl
noncomputable def T180 : Ty := (tyOf Tryd.prog 180).getD ⟨.invalid, 0, 0, none⟩
@[go_sem] theorem ty180 : tyOf Tryd.prog 180 = some T180 := by kernel_rfl
@[go_sem] theorem T180_desc : T180.desc = .array 24 5 := by kernel_rfl
@[go_sem] theorem es180 : elemSize Tryd.prog 180 = none := by kernel_rfl
@[go_sem] theorem ars180 : arrSize Tryd.prog 180 = some (24, 1) := by kernel_rfl
@[go_sem] theorem T180_size : T180.size = 24 := by kernel_rfl
@[go_sem] theorem T180_bytes : T180.bytes = 24 := by kernel_rfl
@[go_sem] theorem T180_cells : zeroCells T180.zero = some [.d (.int .u8 0), .d (.int .u8 0), .d (.int .u8 0), .d (.int .u8 0), .d (.int .u8 0), .d (.int .u8 0), .d (.int .u8 0), .d (.int .u8 0), .d (.int .u8 0), .d (.int .u8 0), .d (.int .u8 0), .d (.int .u8 0), .d (.int .u8 0), .d (.int .u8 0), .d (.int .u8 0), .d (.int .u8 0), .d (.int .u8 0), .d (.int .u8 0), .d (.int .u8 0), .d (.int .u8 0), .d (.int .u8 0), .d (.int .u8 0), .d (.int .u8 0), .d (.int .u8 0)] := by kernel_rfl
@[go_sem] theorem T180_zero : zeroPV T180 = some (.d (.agg [(.int .u8 0), (.int .u8 0), (.int .u8 0), (.int .u8 0), (.int .u8 0), (.int .u8 0), (.int .u8 0), (.int .u8 0), (.int .u8 0), (.int .u8 0), (.int .u8 0), (.int .u8 0), (.int .u8 0), (.int .u8 0), (.int .u8 0), (.int .u8 0), (.int .u8 0), (.int .u8 0), (.int .u8 0), (.int .u8 0), (.int .u8 0), (.int .u8 0), (.int .u8 0), (.int .u8 0)])) := by kernel_rfl
@[go_sem] theorem T180_ok : zeroOk T180 = true := by kernel_rfl
noncomputable def T181 : Ty := (tyOf Tryd.prog 181).getD ⟨.invalid, 0, 0, none⟩
@[go_sem] theorem ty181 : tyOf Tryd.prog 181 = some T181 := by kernel_rfl
@[go_sem] theorem T181_desc : T181.desc = .func #[52, 170] #[] false := by kernel_rfl
@[go_sem] theorem T181_size : T181.size = 1 := by kernel_rfl
@[go_sem] theorem T181_bytes : T181.bytes = 8 := by kernel_rfl
@[go_sem] theorem T181_zero : zeroPV T181 = some (.d .nilfunc) := by kernel_rfl
@[go_sem] theorem T181_ok : zeroOk T181 = true := by kernel_rfl
noncomputable def T183 : Ty := (tyOf Tryd.prog 183).getD ⟨.invalid, 0, 0, none⟩
@[go_sem] theorem ty183 : tyOf Tryd.prog 183 = some T183 := by kernel_rfl
@[go_sem] theorem T183_desc : T183.desc = .func #[52, 170, 3, 4, 4] #[52, 9] false := by kernel_rfl
@[go_sem] theorem T183_size : T183.size = 1 := by kernel_rfl
@[go_sem] theorem T183_bytes : T183.bytes = 8 := by kernel_rfl
@[go_sem] theorem T183_zero : zeroPV T183 = some (.d .nilfunc) := by kernel_rfl
@[go_sem] theorem T183_ok : zeroOk T183 = true := by kernel_rfl
noncomputable def T184 : Ty := (tyOf Tryd.prog 184).getD ⟨.invalid, 0, 0, none⟩
@[go_sem] theorem ty184 : tyOf Tryd.prog 184 = some T184 := by kernel_rfl
@[go_sem] theorem T184_desc : T184.desc = .pointer 174 := by kernel_rfl
@[go_sem] theorem T184_size : T184.size = 1 := by kernel_rfl
@[go_sem] theorem T184_bytes : T184.bytes = 8 := by kernel_rfl
@[go_sem] theorem T184_zero : zeroPV T184 = some (.d .nilptr) := by kernel_rfl
@[go_sem] theorem T184_ok : zeroOk T184 = true := by kernel_rfl
noncomputable def T186 : Ty := (tyOf Tryd.prog 186).getD ⟨.invalid, 0, 0, none⟩
@[go_sem] theorem ty186 : tyOf Tryd.prog 186 = some T186 := by kernel_rfl
@[go_sem] theorem T186_desc : T186.desc = .func #[26, 3, 3, 178] #[3, 3] false := by kernel_rfl
@[go_sem] theorem T186_size : T186.size = 1 := by kernel_rfl
@[go_sem] theorem T186_bytes : T186.bytes = 8 := by kernel_rfl
@[go_sem] theorem T186_zero : zeroPV T186 = some (.d .nilfunc) := by kernel_rfl
@[go_sem] theorem T186_ok : zeroOk T186 = true := by kernel_rfl
noncomputable def T187 : Ty := (tyOf Tryd.prog 187).getD ⟨.invalid, 0, 0, none⟩
@[go_sem] theorem ty187 : tyOf Tryd.prog 187 = some T187 := by kernel_rfl
@[go_sem] theorem T187_desc : T187.desc = .func #[4] #[3] false := by kernel_rfl
@[go_sem] theorem T187_size : T187.size = 1 := by kernel_rfl
@[go_sem] theorem T187_bytes : T187.bytes = 8 := by kernel_rfl
@[go_sem] theorem T187_zero : zeroPV T187 = some (.d .nilfunc) := by kernel_rfl
@[go_sem] theorem T187_ok : zeroOk T187 = true := by kernel_rfl
noncomputable def T188 : Ty := (tyOf Tryd.prog 188).getD ⟨.invalid, 0, 0, none⟩
@[go_sem] theorem ty188 : tyOf Tryd.prog 188 = some T188 := by kernel_rfl
@[go_sem] theorem T188_desc : T188.desc = .array 20 170 := by kernel_rfl
@[go_sem] theorem es188 : elemSize Tryd.prog 188 = none := by kernel_rfl
@[go_sem] theorem ars188 : arrSize Tryd.prog 188 = some (20, 1) := by kernel_rfl
@[go_sem] theorem T188_size : T188.size = 20 := by kernel_rfl
@[go_sem] theorem T188_bytes : T188.bytes = 160 := by kernel_rfl
@[go_sem] theorem T188_cells : zeroCells T188.zero = some [.d (.int .u64 0), .d (.int .u64 0), .d (.int .u64 0), .d (.int .u64 0), .d (.int .u64 0), .d (.int .u64 0), .d (.int .u64 0), .d (.int .u64 0), .d (.int .u64 0), .d (.int .u64 0), .d (.int .u64 0), .d (.int .u64 0), .d (.int .u64 0), .d (.int .u64 0), .d (.int .u64 0), .d (.int .u64 0), .d (.int .u64 0), .d (.int .u64 0), .d (.int .u64 0), .d (.int .u64 0)] := by kernel_rfl
@[go_sem] theorem T188_zero : zeroPV T188 = some (.d (.agg [(.int .u64 0), (.int .u64 0), (.int .u64 0), (.int .u64 0), (.int .u64 0), (.int .u64 0), (.int .u64 0), (.int .u64 0), (.int .u64 0), (.int .u64 0), (.int .u64 0), (.int .u64 0), (.int .u64 0), (.int .u64 0), (.int .u64 0), (.int .u64 0), (.int .u64 0), (.int .u64 0), (.int .u64 0), (.int .u64 0)])) := by kernel_rfl
@[go_sem] theorem T188_ok : zeroOk T188 = true := by kernel_rfl
noncomputable def T189 : Ty := (tyOf Tryd.prog 189).getD ⟨.invalid, 0, 0, none⟩
@[go_sem] theorem ty189 : tyOf Tryd.prog 189 = some T189 := by kernel_rfl
@[go_sem] theorem T189_desc : T189.desc = .array 65 5 := by kernel_rfl
@[go_sem] theorem es189 : elemSize Tryd.prog 189 = none := by kernel_rfl
@[go_sem] theorem ars189 : arrSize Tryd.prog 189 = some (65, 1) := by kernel_rfl
@[go_sem] theorem T189_size : T189.size = 65 := by kernel_rfl
@[go_sem] theorem T189_bytes : T189.bytes = 65 := by kernel_rfl
@[go_sem] theorem T189_cells : zeroCells T189.zero = some [.d (.int .u8 0), .d (.int .u8 0), .d (.int .u8 0), .d (.int .u8 0), .d (.int .u8 0), .d (.int .u8 0), .d (.int .u8 0), .d (.int .u8 0), .d (.int .u8 0), .d (.int .u8 0), .d (.int .u8 0), .d (.int .u8 0), .d (.int .u8 0), .d (.int .u8 0), .d (.int .u8 0), .d (.int .u8 0), .d (.int .u8 0), .d (.int .u8 0), .d (.int .u8 0), .d (.int .u8 0), .d (.int .u8 0), .d (.int .u8 0), .d (.int .u8 0), .d (.int .u8 0), .d (.int .u8 0), .d (.int .u8 0), .d (.int .u8 0), .d (.int .u8 0), .d (.int .u8 0), .d (.int .u8 0), .d (.int .u8 0), .d (.int .u8 0), .d (.int .u8 0), .d (.int .u8 0), .d (.int .u8 0), .d (.int .u8 0), .d (.int .u8 0), .d (.int .u8 0), .d (.int .u8 0), .d (.int .u8 0), .d (.int .u8 0), .d (.int .u8 0), .d (.int .u8 0), .d (.int .u8 0), .d (.int .u8 0), .d (.int .u8 0), .d (.int .u8 0), .d (.int .u8 0), .d (.int .u8 0), .d (.int .u8 0), .d (.int .u8 0), .d (.int .u8 0), .d (.int .u8 0), .d (.int .u8 0), .d (.int .u8 0), .d (.int .u8 0), .d (.int .u8 0), .d (.int .u8 0), .d (.int .u8 0), .d (.int .u8 0), .d (.int .u8 0), .d (.int .u8 0), .d (.int .u8 0), .d (.int .u8 0), .d (.int .u8 0)] := by kernel_rfl
@[go_sem] theorem T189_zero : zeroPV T189 = some (.d (.agg [(.int .u8 0), (.int .u8 0), (.int .u8 0), (.int .u8 0), (.int .u8 0), (.int .u8 0), (.int .u8 0), (.int .u8 0), (.int .u8 0), (.int .u8 0), (.int .u8 0), (.int .u8 0), (.int .u8 0), (.int .u8 0), (.int .u8 0), (.int .u8 0), (.int .u8 0), (.int .u8 0), (.int .u8 0), (.int .u8 0), (.int .u8 0), (.int .u8 0), (.int .u8 0), (.int .u8 0), (.int .u8 0), (.int .u8 0), (.int .u8 0), (.int .u8 0), (.int .u8 0), (.int .u8 0), (.int .u8 0), (.int .u8 0), (.int .u8 0), (.int .u8 0), (.int .u8 0), (.int .u8 0), (.int .u8 0), (.int .u8 0), (.int .u8 0), (.int .u8 0), (.int .u8 0), (.int .u8 0), (.int .u8 0), (.int .u8 0), (.int .u8 0), (.int .u8 0), (.int .u8 0), (.int .u8 0), (.int .u8 0), (.int .u8 0), (.int .u8 0), (.int .u8 0), (.int .u8 0), (.int .u8 0), (.int .u8 0), (.int .u8 0), (.int .u8 0), (.int .u8 0), (.int .u8 0), (.int .u8 0), (.int .u8 0), (.int .u8 0), (.int .u8 0), (.int .u8 0), (.int .u8 0)])) := by kernel_rfl
@[go_sem] theorem T189_ok : zeroOk T189 = true := by kernel_rfl
noncomputable def T190 : Ty := (tyOf Tryd.prog 190).getD ⟨.invalid, 0, 0, none⟩
@[go_sem] theorem ty190 : tyOf Tryd.prog 190 = some T190 := by kernel_rfl
@[go_sem] theorem T190_desc : T190.desc = .array 32 5 := by kernel_rfl
@[go_sem] theorem es190 : elemSize Tryd.prog 190 = none := by kernel_rfl
@[go_sem] theorem ars190 : arrSize Tryd.prog 190 = some (32, 1) := by kernel_rfl
@[go_sem] theorem T190_size : T190.size = 32 := by kernel_rfl
@[go_sem] theorem T190_bytes : T190.bytes = 32 := by kernel_rfl
@[go_sem] theorem T190_cells : zeroCells T190.zero = some [.d (.int .u8 0), .d (.int .u8 0), .d (.int .u8 0), .d (.int .u8 0), .d (.int .u8 0), .d (.int .u8 0), .d (.int .u8 0), .d (.int .u8 0), .d (.int .u8 0), .d (.int .u8 0), .d (.int .u8 0), .d (.int .u8 0), .d (.int .u8 0), .d (.int .u8 0), .d (.int .u8 0), .d (.int .u8 0), .d (.int .u8 0), .d (.int .u8 0), .d (.int .u8 0), .d (.int .u8 0), .d (.int .u8 0), .d (.int .u8 0), .d (.int .u8 0), .d (.int .u8 0), .d (.int .u8 0), .d (.int .u8 0), .d (.int .u8 0), .d (.int .u8 0), .d (.int .u8 0), .d (.int .u8 0), .d (.int .u8 0), .d (.int .u8 0)] := by kernel_rfl
@[go_sem] theorem T190_zero : zeroPV T190 = some (.d (.agg [(.int .u8 0), (.int .u8 0), (.int .u8 0), (.int .u8 0), (.int .u8 0), (.int .u8 0), (.int .u8 0), (.int .u8 0), (.int .u8 0), (.int .u8 0), (.int .u8 0), (.int .u8 0), (.int .u8 0), (.int .u8 0), (.int .u8 0), (.int .u8 0), (.int .u8 0), (.int .u8 0), (.int .u8 0), (.int .u8 0), (.int .u8 0), (.int .u8 0), (.int .u8 0), (.int .u8 0), (.int .u8 0), (.int .u8 0), (.int .u8 0), (.int .u8 0), (.int .u8 0), (.int .u8 0), (.int .u8 0), (.int .u8 0)])) := by kernel_rfl
@[go_sem] theorem T190_ok : zeroOk T190 = true := by kernel_rfl
noncomputable def T191 : Ty := (tyOf Tryd.prog 191).getD ⟨.invalid, 0, 0, none⟩
@[go_sem] theorem ty191 : tyOf Tryd.prog 191 = some T191 := by kernel_rfl
@[go_sem] theorem T191_desc : T191.desc = .array 64 5 := by kernel_rfl
@[go_sem] theorem es191 : elemSize Tryd.prog 191 = none := by kernel_rfl
@[go_sem] theorem ars191 : arrSize Tryd.prog 191 = some (64, 1) := by kernel_rfl
@[go_sem] theorem T191_size : T191.size = 64 := by kernel_rfl
@[go_sem] theorem T191_bytes : T191.bytes = 64 := by kernel_rfl
@[go_sem] theorem T191_cells : zeroCells T191.zero = some [.d (.int .u8 0), .d (.int .u8 0), .d (.int .u8 0), .d (.int .u8 0), .d (.int .u8 0), .d (.int .u8 0), .d (.int .u8 0), .d (.int .u8 0), .d (.int .u8 0), .d (.int .u8 0), .d (.int .u8 0), .d (.int .u8 0), .d (.int .u8 0), .d (.int .u8 0), .d (.int .u8 0), .d (.int .u8 0), .d (.int .u8 0), .d (.int .u8 0), .d (.int .u8 0), .d (.int .u8 0), .d (.int .u8 0), .d (.int .u8 0), .d (.int .u8 0), .d (.int .u8 0), .d (.int .u8 0), .d (.int .u8 0), .d (.int .u8 0), .d (.int .u8 0), .d (.int .u8 0), .d (.int .u8 0), .d (.int .u8 0), .d (.int .u8 0), .d (.int .u8 0), .d (.int .u8 0), .d (.int .u8 0), .d (.int .u8 0), .d (.int .u8 0), .d (.int .u8 0), .d (.int .u8 0), .d (.int .u8 0), .d (.int .u8 0), .d (.int .u8 0), .d (.int .u8 0), .d (.int .u8 0), .d (.int .u8 0), .d (.int .u8 0), .d (.int .u8 0), .d (.int .u8 0), .d (.int .u8 0), .d (.int .u8 0), .d (.int .u8 0), .d (.int .u8 0), .d (.int .u8 0), .d (.int .u8 0), .d (.int .u8 0), .d (.int .u8 0), .d (.int .u8 0), .d (.int .u8 0), .d (.int .u8 0), .d (.int .u8 0), .d (.int .u8 0), .d (.int .u8 0), .d (.int .u8 0), .d (.int .u8 0)] := by kernel_rfl
@[go_sem] theorem T191_zero : zeroPV T191 = some (.d (.agg [(.int .u8 0), (.int .u8 0), (.int .u8 0), (.int .u8 0), (.int .u8 0), (.int .u8 0), (.int .u8 0), (.int .u8 0), (.int .u8 0), (.int .u8 0), (.int .u8 0), (.int .u8 0), (.int .u8 0), (.int .u8 0), (.int .u8 0), (.int .u8 0), (.int .u8 0), (.int .u8 0), (.int .u8 0), (.int .u8 0), (.int .u8 0), (.int .u8 0), (.int .u8 0), (.int .u8 0), (.int .u8 0), (.int .u8 0), (.int .u8 0), (.int .u8 0), (.int .u8 0), (.int .u8 0), (.int .u8 0), (.int .u8 0), (.int .u8 0), (.int .u8 0), (.int .u8 0), (.int .u8 0), (.int .u8 0), (.int .u8 0), (.int .u8 0), (.int .u8 0), (.int .u8 0), (.int .u8 0), (.int .u8 0), (.int .u8 0), (.int .u8 0), (.int .u8 0), (.int .u8 0), (.int .u8 0), (.int .u8 0), (.int .u8 0), (.int .u8 0), (.int .u8 0), (.int .u8 0), (.int .u8 0), (.int .u8 0), (.int .u8 0), (.int .u8 0), (.int .u8 0), (.int .u8 0), (.int .u8 0), (.int .u8 0), (.int .u8 0), (.int .u8 0), (.int .u8 0)])) := by kernel_rfl
@[go_sem] theorem T191_ok : zeroOk T191 = true := by kernel_rfl
noncomputable def T194 : Ty := (tyOf Tryd.prog 194).getD ⟨.invalid, 0, 0, none⟩
@[go_sem] theorem ty194 : tyOf Tryd.prog 194 = some T194 := by kernel_rfl
@[go_sem] theorem T194_desc : T194.desc = .array 0 16 := by kernel_rfl
@[go_sem] theorem es194 : elemSize Tryd.prog 194 = none := by kernel_rfl
@[go_sem] theorem ars194 : arrSize Tryd.prog 194 = some (0, 1) := by kernel_rfl
@[go_sem] theorem T194_size : T194.size = 0 := by kernel_rfl
@[go_sem] theorem T194_bytes : T194.bytes = 0 := by kernel_rfl
noncomputable def T195 : Ty := (tyOf Tryd.prog 195).getD ⟨.invalid, 0, 0, none⟩
@[go_sem] theorem ty195 : tyOf Tryd.prog 195 = some T195 := by kernel_rfl
noncomputable def fs195 : Array Field := match T195.desc with | .struct fs => fs | _ => #[]
@[go_sem] theorem T195_desc : T195.desc = .struct fs195 := by kernel_rfl
noncomputable def fs195_0 : Field := fs195.getD 0 default
@[go_sem] theorem fs195_at0 : fs195[0]? = some fs195_0 := by kernel_rfl
@[go_sem] theorem fs195_0_type : fs195_0.type = 194 := by kernel_rfl
@[go_sem] theorem fs195_0_off : fs195_0.offset = 0 := by kernel_rfl
@[go_sem] theorem fo195_0 : fieldOf Tryd.prog 195 0 = some (0, 0) := by kernel_rfl
@[go_sem] theorem pl195 : placesOf Tryd.prog fs195.toList = some [(0, 0)] := by kernel_rfl
@[go_sem] theorem T195_size : T195.size = 0 := by kernel_rfl
@[go_sem] theorem T195_bytes : T195.bytes = 0 := by kernel_rfl
noncomputable def T199 : Ty := (tyOf Tryd.prog 199).getD ⟨.invalid, 0, 0, none⟩
@[go_sem] theorem ty199 : tyOf Tryd.prog 199 = some T199 := by kernel_rfl
@[go_sem] theorem T199_desc : T199.desc = .func #[171, 171] #[4] false := by kernel_rfl
@[go_sem] theorem T199_size : T199.size = 1 := by kernel_rfl
@[go_sem] theorem T199_bytes : T199.bytes = 8 := by kernel_rfl
@[go_sem] theorem T199_zero : zeroPV T199 = some (.d .nilfunc) := by kernel_rfl
@[go_sem] theorem T199_ok : zeroOk T199 = true := by kernel_rfl
@[go_sem] theorem rg0 : List.range 0 = [] := by decide
@[go_sem] theorem rg3 : List.range 3 = [0, 1, 2] := by decide
@[go_sem] theorem se22 : sliceElem Tryd.prog 22 = some (56, T56) := by kernel_rfl
@[go_sem] theorem se26 : sliceElem Tryd.prog 26 = some (3, T3) := by kernel_rfl
@[go_sem] theorem se32 : sliceElem Tryd.prog 32 = some (37, T37) := by kernel_rfl
@[go_sem] theorem se52 : sliceElem Tryd.prog 52 = some (5, T5) := by kernel_rfl
@[go_sem] theorem se54 : sliceElem Tryd.prog 54 = some (61, T61) := by kernel_rfl
@[go_sem] theorem se76 : sliceElem Tryd.prog 76 = some (120, T120) := by kernel_rfl
@[go_sem] theorem se79 : sliceElem Tryd.prog 79 = some (26, T26) := by kernel_rfl
@[go_sem] theorem se113 : sliceElem Tryd.prog 113 = some (22, T22) := by kernel_rfl
end Go.Pv.Tryd

