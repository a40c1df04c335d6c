/- TariffLeans answers true for every input, as its tied card says: under the conditions of the card (Rows, Cards, Tie), no more. Part 4 of 7: by one AI agent and its programs; no person has read it. -/
import Derived.Test.YtnfnkllhjaemnaaDoorTariffLeansA
import Derived.Test.YtnfnkllhjaemnaaDoorTariffLeansB
import Derived.Test.YtnfnkllhjaemnaaDoorTariffLeansC
import Derived.Lib.ItoaNum
import Derived.Test.YtnfnkllhjaemnaaDoorProg
import Derived.KernelRfl
set_option linter.unusedSimpArgs false
set_option linter.unusedVariables false
set_option linter.all false

namespace Go.Pv
section
variable {P : Program} {G : List (Nat × PD)} {B : Base P} {N : Nat} {σ τ : St} {a : Act} {w : World} {φ φ' : Nm} {H H' : wac} {ρ : Nat → Nat}
theorem Row.ren_len (x : Row) : (x.ren ρ).els.length = x.els.length := by simp [Row.ren, wao]
theorem RepV.renamed {X : Nat → Prop} (hrow : ∀ r x, waa H r = some x → waa H' (ρ r) = some (x.ren ρ) ∧ φ' (ρ r) = φ r) (hown : ∀ b, own φ' H' b ↔ own φ H b) {v : Value} {p : PV} (h : RepV w X φ H v p) : RepV w X φ' H' v (p.ren ρ) := by
 have hd : ∀ b, okd w X φ H b → okd w X φ' H' b := fun b hb => ⟨hb.1, hb.2.1, fun ho => hb.2.2 ((hown b).1 ho)⟩
 have hb' : ∀ b, okb w φ H b → okb w φ' H' b := fun b hb => ⟨hb.1, fun ho => hb.2 ((hown b).1 ho)⟩
 induction h with
 | any v => simp only [PV.ren]; exact .any v
 | d h => simp only [PV.ren]; exact .d (h.mono hd (fun _ _ => rfl))
 | b h => simp only [PV.ren]; exact .b (h.mono hb' (fun _ _ => rfl))
 | @ptr r i off b x hx hb hk =>
  simp only [PV.ren]
  obtain ⟨h1, h2⟩ := hrow _ _ hx
  exact .ptr (x := x.ren ρ) h1 (h2.trans hb) hk
 | dptr h hi => simp only [PV.ren]; exact .dptr (h.mono hd (fun _ _ => rfl)) hi
 | bptr h hi => simp only [PV.ren]; exact .bptr (h.mono hb' (fun _ _ => rfl)) hi
 | glob g => simp only [PV.ren]; exact .glob g
 | val hf => simp only [PV.ren]; exact .val hf
 | @slc r lo n cap b x hx hb hk hn hc hl hz =>
  simp only [PV.ren]
  obtain ⟨h1, h2⟩ := hrow _ _ hx
  exact .slc (x := x.ren ρ) h1 (h2.trans hb) hk (by rw [Row.ren_len]; exact hn) hc (by rw [Row.ren_len]; exact hl) hz
 | @slc0 r x p hx hb hk hp =>
  simp only [PV.ren]
  obtain ⟨h1, h2⟩ := hrow _ _ hx
  exact .slc0 (x := x.ren ρ) h1 (h2.trans hb) hk hp
 | @mp r b x hx hb hk =>
  simp only [PV.ren]
  obtain ⟨h1, h2⟩ := hrow _ _ hx
  exact .mp (x := x.ren ρ) h1 (h2.trans hb) hk
 | func hs _ ih =>
  simp only [PV.ren]
  exact .func (by rw [wao]; exact hs) fun i hi => by rw [wcj _ _ i (by rw [wao] at hi; exact hi) hi]; exact ih i (by rw [wao] at hi; exact hi)
 | agg hs _ hf ih =>
  simp only [PV.ren]
  exact .agg (by rw [wao]; exact hs) (fun i hi => by rw [wcj _ _ i (by rw [wao] at hi; exact hi) hi]; exact ih i (by rw [wao] at hi; exact hi)) fun i hi => hf i (by rw [wao] at hi; exact hi)
 | tuple hs _ ih =>
  simp only [PV.ren]
  exact .tuple (by rw [wao]; exact hs) fun i hi => by rw [wcj _ _ i (by rw [wao] at hi; exact hi) hi]; exact ih i (by rw [wao] at hi; exact hi)
structure Renames (σ τ : St) (ρ : Nat → Nat) : Prop where
 env : ∀ t, wam τ.env t = (wam σ.env t).ren ρ
 row : ∀ r x, waa σ.heap r = some x → waa τ.heap (ρ r) = some (x.ren ρ)
 all : ∀ s y, waa τ.heap s = some y → ∃ r x, waa σ.heap r = some x ∧ s = ρ r
 inj : ∀ r s x y, waa σ.heap r = some x → waa σ.heap s = some y → ρ r = ρ s → r = s
 pin : ∀ r x, waa σ.heap r = some x → r < 1000 → ρ r = r
 big : ∀ r x, waa σ.heap r = some x → 1000 ≤ r → 1000 ≤ ρ r
 dfr : τ.dfr = σ.dfr.map (PV.ren ρ)
 gh : σ.gh = τ.gh
open Classical in
noncomputable def wjM (φ : Nm) (H : wac) (ρ : Nat → Nat) : Nm := ⟨fun s => if h : ∃ r, (waa H r).isSome = true ∧ ρ r = s then φ (Classical.choose h) else none, φ.T⟩
open Classical in
theorem wrS (hi : ∀ r s x y, waa H r = some x → waa H s = some y → ρ r = ρ s → r = s) {r : Nat} {x : Row} (h : waa H r = some x) : (wjM φ H ρ) (ρ r) = φ r := by
 have hex : ∃ r', (waa H r').isSome = true ∧ ρ r' = ρ r := ⟨r, by rw [h]; rfl, rfl⟩
 show (if h : ∃ r', (waa H r').isSome = true ∧ ρ r' = ρ r then φ (Classical.choose h) else none) = _
 rw [dif_pos hex]
 obtain ⟨h1, h2⟩ := Classical.choose_spec hex
 obtain ⟨y, hy⟩ := Option.isSome_iff_exists.1 h1
 rw [hi _ _ _ _ hy h h2]
theorem Sub.ren (h : Renames σ τ ρ) : Sub G N σ τ := by
 intro P B a w φ hr
 have hat : ∀ r x, waa σ.heap r = some x → (wjM φ σ.heap ρ) (ρ r) = φ r := fun r x hx => wrS h.inj hx
 have hrow : ∀ b, waC (wjM φ σ.heap ρ) τ.heap b ↔ waC φ σ.heap b := fun b => by
  constructor
  ·rintro ⟨s, y, h1, h2⟩
   obtain ⟨r, x, h3, rfl⟩ := h.all s y h1
   exact ⟨r, x, h3, (hat r x h3).symm.trans h2⟩
  ·rintro ⟨r, x, h1, h2⟩
   exact ⟨ρ r, _, h.row r x h1, (hat r x h1).trans h2⟩
 have hown : ∀ b, own (wjM φ σ.heap ρ) τ.heap b ↔ own φ σ.heap b := fun b => or_congr (hrow b) Iff.rfl
 have hv : ∀ {v p}, RepV w B.X φ σ.heap v p → RepV w B.X (wjM φ σ.heap ρ) τ.heap v (p.ren ρ) := fun {v p} hv => hv.renamed (fun r x hx => ⟨h.row r x hx, hat r x hx⟩) hown
 have hd : ∀ b, okd w B.X φ σ.heap b → okd w B.X (wjM φ σ.heap ρ) τ.heap b := fun b hb => ⟨hb.1, hb.2.1, fun ho => hb.2.2 ((hown b).1 ho)⟩
 refine ⟨wjM φ σ.heap ρ, Rep.of_sit ⟨⟨fun s y b hs hb => ?_, fun s y hs hb => ?_, fun s t y z b hs ht hb hb' => ?_, fun b hT => ⟨(hr.heap.far b hT).1, (hr.heap.far b hT).2.1, fun ho => (hr.heap.far b hT).2.2 ((hrow b).1 ho)⟩⟩, hr.keeps, fun s y b hs hb => ?_, fun s y hs hp => ?_, fun s y b hs hp hb => ?_, ?_, hr.tnew, ?_⟩ hr.size (fun t => ?_) ?_⟩
 ·obtain ⟨r, x, h1, rfl⟩ := h.all s y hs
  have h2 := h.row r x h1
  rw [hs] at h2; cases h2
  rw [hat r x h1] at hb
  refine (hr.heap.rows r x b h1 hb).turn rfl rfl (Row.ren_len x) (fun _ _ h => h) (hr.heap.rows r x b h1 hb).free (fun i hi hi' v hv' => ?_) fun z hz => by simp only [Row.ren, wev]; exact hz.map fun p hp => wlW ρ hp
  simp only [Row.ren]
  rw [wcj _ _ i hi (by simpa [Row.ren] using hi')]
  exact hv hv'
 ·obtain ⟨r, x, h1, rfl⟩ := h.all s y hs
  have h2 := h.row r x h1
  rw [hs] at h2; cases h2
  rw [hat r x h1] at hb
  have := hr.heap.void r x h1 hb
  simp [Row.ren, this, renL]
 ·obtain ⟨r, x, h1, rfl⟩ := h.all s y hs
  obtain ⟨r', x', h1', rfl⟩ := h.all t z ht
  rw [hat r x h1] at hb
  rw [hat r' x' h1'] at hb'
  rw [hr.heap.inj r r' x x' b h1 h1' hb hb']
 ·obtain ⟨r, x, h1, rfl⟩ := h.all s y hs
  rw [hat r x h1] at hb
  exact hr.new r x b h1 hb
 ·obtain ⟨r, x, h1, rfl⟩ := h.all s y hs
  rcases Nat.lt_or_ge r 1000 with hl | hl
  ·rw [hat r x h1, h.pin r x h1 hl]
   exact hr.pins r x h1 (by simp [pinned, hl])
  ·have := h.big r x h1 hl
   simp [pinned] at hp; omega
 ·obtain ⟨r, x, h1, rfl⟩ := h.all s y hs
  rcases Nat.lt_or_ge r 1000 with hl | hl
  ·rw [hat r x h1] at hb
   exact hr.psz r x b h1 (by simp [pinned, hl]) hb
  ·have := h.big r x h1 hl
   simp [pinned] at hp; omega
 ·intro g y hm
  obtain ⟨c, e, f, v, h1, h2, h3, h4, h5, h6⟩ := hr.glob g y hm
  exact ⟨c, e, f, v, h1, fun ho => h2 ((hown g).1 ho), h3.mono hd (fun _ _ => rfl), h4, h5, h6⟩
 ·rw [← h.gh]
  exact wdW (w := w) (φ := φ) (H := σ.heap) hr.inv rfl rfl rfl rfl (Nat.le_refl _) (fun _ _ _ => rfl) (fun b hb => .inl ((hrow b).1 hb))
 ·rw [h.env t]; exact hv (hr.env t)
 ·rw [h.dfr, ← h.gh]
  exact hr.dfr.map (fun D hD => ⟨hd D hD, rfl⟩) fun p _ v hv' => hv hv'
end
def wcU (ρ : Nat → Nat) : wac → wac
 | [] => []
 | (r, x) :: l => (r, x.ren ρ) :: wcU ρ l
def wgy (ρ : Nat → Nat) : List (Nat × PV) → List (Nat × PV)
 | [] => []
 | (t, v) :: l => (t, v.ren ρ) :: wgy ρ l
theorem wfA (ρ : Nat → Nat) : ∀ (l : wac) (r : Nat), waa (wcU ρ l) r = (waa l r).map (Row.ren ρ)
 | [], _ => rfl
 | (s, x) :: l, r => by
  simp only [wcU, waa]
  split
  ·rfl
  ·exact wfA ρ l r
theorem wiJ (ρ : Nat → Nat) : ∀ (l : List (Nat × PV)) (t : Nat), wam (wgy ρ l) t = (wam l t).ren ρ
 | [], _ => by simp [wgy, wam, PV.ren]
 | (s, x) :: l, t => by
  simp only [wgy, wam]
  split
  ·rfl
  ·exact wiJ ρ l t
def foc (c i q s : Nat) : Nat := if s = sn c i then q else s
def unf (c i q s : Nat) : Nat := if s = q then sn c i else s
theorem wfi {c i q s : Nat} (h : s < 1000000) : foc c i q s = s := by unfold foc; rw [if_neg (by unfold sn; omega)]
theorem foc_at {c i q : Nat} : foc c i q (sn c i) = q := by simp [foc]
theorem unf_at {c i q : Nat} : unf c i q q = sn c i := by simp [unf]
theorem wfN {c i q s : Nat} (h : s ≠ q) : unf c i q s = s := by unfold unf; rw [if_neg h]
theorem wkL {c i j : Nat} (h : sn c i = sn c j) : i = j := by unfold sn at h; omega
theorem wqI {α : Type} {c i q : Nat} {F : Nat → α → PV} [NestF F] {L : List α} {x : α} (h : L[i]? = some x) : renL (foc c i q) (wbp c F L) = (wbp c F L).set i (F q x) := by
 rw [wev]
 apply List.ext_getElem?
 intro j
 rw [List.getElem?_map, List.getElem?_set]
 simp only [wbp, wg9, whZ]
 by_cases hij : i = j
 ·subst hij
  rw [h]; simp [NestF.ren, foc_at, (List.getElem?_eq_some_iff.1 h).1]
 ·rw [if_neg hij]
  cases L[j]? with
  | none => rfl
  | some y =>
   simp only [Option.map_some, NestF.ren]
   unfold foc
   rw [if_neg (fun e => hij (wkL e).symm)]
theorem wkM {α : Type} {c i q : Nat} {F : Nat → α → PV} [NestF F] {L : List α} {x : α} (hq : q < 1000000) (hi : i < L.length) : renL (unf c i q) ((wbp c F L).set i (F q x)) = wbp c F (L.set i x) := by
 rw [wev]
 apply List.ext_getElem?
 intro j
 rw [List.getElem?_map, List.getElem?_set]
 simp only [wbp, wg9, whZ, List.getElem?_set]
 by_cases hij : i = j
 ·subst hij
  simp [hi, NestF.ren, unf_at]
 ·rw [if_neg hij, if_neg hij]
  cases L[j]? with
  | none => rfl
  | some y =>
   simp only [Option.map_some, NestF.ren]
   rw [wfN (by unfold sn; omega)]
theorem wok {α : Type} {c i q : Nat} {F : Nat → α → PV} [NestF F] {L : List α} {x : α} {p : PV} (hq : q < 1000000) (hi : i < L.length) (hp : p = F q x) : renL (unf c i q) ((wbp c F L).set i p) = wbp c F (L.set i x) := by
 rw [hp]; exact wkM hq hi
theorem wsE (ρ : Nat → Nat) (l : List PD) : renL ρ (l.map PV.d) = l.map PV.d := by
 rw [wev, List.map_map]; rfl
theorem NestG.ren {α : Type} {g : α → Row} [NestG g] (ρ : Nat → Nat) (x : α) : (g x).ren ρ = g x := by
 obtain ⟨_, l, h⟩ := NestG.data (g := g) x
 simp only [Row.ren, h, wsE]
 cases hg : g x
 rw [hg] at h; simp only at h; subst h; rfl
section
variable {G : List (Nat × PD)} {N : Nat} {σ : St}
theorem Sub.focus {α : Type} (c i q : Nat) {F : Nat → α → PV} {g : α → Row} [NestF F] [NestG g] {L : List α} {x : α} {l l' : wac} {e' : List (Nat × PV)} (hx : L[i]? = some x) (hs : σ.heap = waB c (waK g L) l) (hlow : wcD l) (hq : waa l q = none) (hq1 : 1000 ≤ q) (hq2 : q < 1000000)
  (hl : wcU (foc c i q) l = l') (he : wgy (foc c i q) σ.env = e') (hd : σ.dfr = []) : Sub G N σ ⟨e', waB c ((waK g L).set i none) ((q, g x) :: l'), σ.dfr, σ.gh⟩ := by
 subst hl he
 have hsn : ∀ j, waa σ.heap (sn c j) = (L[j]?).map g := fun j => by rw [hs, wdC j hlow, wcx]
 have hlo : ∀ r, r < 1000000 → waa σ.heap r = waa l r := fun r h => by rw [hs, wbe h]
 have hcase : ∀ r x', waa σ.heap r = some x' → (∃ j, r = sn c j ∧ (L[j]?).map g = some x') ∨ (r < 1000000 ∧ waa l r = some x' ∧ r ≠ q) := fun r x' h => by
  rw [hs] at h
  rcases wej h with ⟨j, h1, h2⟩ | h
  ·rw [wcx] at h2; exact .inl ⟨j, h1, h2⟩
  ·by_cases hr : r < 1000000
   ·exact .inr ⟨hr, h, fun e => by rw [e, hq] at h; cases h⟩
   ·rw [wb5 hlow r (by omega)] at h; cases h
 have hlow' : wcD ((q, g x) :: wcU (foc c i q) l) := ⟨hq2, by
  have : ∀ l : wac, wcD l → wcD (wcU (foc c i q) l) := fun l => by
   induction l with
   | nil => exact fun h => h
   | cons y l ih => obtain ⟨s, y⟩ := y; exact fun h => ⟨h.1, ih h.2⟩
  exact this l hlow⟩
 have hgx : ∀ j, waa (waB c ((waK g L).set i none) ((q, g x) :: wcU (foc c i q) l)) (sn c j) = if i = j then none else (L[j]?).map g := fun j => by
  rw [wdC j hlow', wit]
 have hgl : ∀ r, r < 1000000 → waa (waB c ((waK g L).set i none) ((q, g x) :: wcU (foc c i q) l)) r = if q = r then some (g x) else (waa l r).map (Row.ren (foc c i q)) := fun r hr => by
  rw [wbe hr]; simp only [waa, wfA]
 refine Sub.ren (ρ := foc c i q) ⟨fun t => wiJ _ _ t, fun r y hy => ?_, fun s y hy => ?_, fun r s y z hy hz hrs => ?_, fun r y hy hr => ?_, fun r y hy hr => ?_, by rw [hd]; rfl, rfl⟩
 ·rcases hcase r y hy with ⟨j, rfl, h2⟩ | ⟨h1, h2, h3⟩
  ·by_cases hij : i = j
   ·subst hij
    rw [foc_at, hgl q hq2, if_pos rfl]
    rw [hx] at h2; simp only [Option.map_some, Option.some.injEq] at h2; subst h2
    rw [NestG.ren]
   ·have e1 : foc c i q (sn c j) = sn c j := by unfold foc; rw [if_neg (fun e => hij (wkL e).symm)]
    rw [e1, hgx, if_neg hij, h2]
    cases hj : L[j]? with
    | none => rw [hj] at h2; cases h2
    | some z => rw [hj] at h2; simp only [Option.map_some, Option.some.injEq] at h2; subst h2; rw [NestG.ren]
  ·rw [wfi h1, hgl r h1, if_neg (Ne.symm h3), h2]; rfl
 ·rcases wej hy with ⟨j, rfl, h2⟩ | h
  ·rw [wit] at h2
   split at h2
   ·cases h2
   ·rename_i hij
    exact ⟨sn c j, y, (hsn j).trans h2, by unfold foc; rw [if_neg (fun e => hij (wkL e).symm)]⟩
  ·simp only [waa, wfA] at h
   split at h
   ·rename_i e; subst e
    exact ⟨sn c i, g x, by rw [hsn, hx]; rfl, foc_at.symm⟩
   ·simp only [Option.map_eq_some_iff] at h
    obtain ⟨y', h1, _⟩ := h
    have hr : s < 1000000 := Nat.lt_of_not_le fun hge => by rw [wb5 hlow s hge] at h1; cases h1
    exact ⟨s, y', (hlo s hr).trans h1, (wfi hr).symm⟩
 ·rcases hcase r y hy with ⟨j, rfl, h2⟩ | ⟨h1, h2, h3⟩ <;> rcases hcase s z hz with ⟨j', rfl, h2'⟩ | ⟨h1', h2', h3'⟩
  ·unfold foc at hrs
   split at hrs <;> split at hrs
   ·rename_i e e'; rw [e, e']
   ·unfold sn at hrs; omega
   ·unfold sn at hrs; omega
   ·exact hrs
  ·rw [wfi h1'] at hrs
   unfold foc at hrs
   split at hrs
   ·exact absurd hrs.symm h3'
   ·unfold sn at hrs; omega
  ·rw [wfi h1] at hrs
   unfold foc at hrs
   split at hrs
   ·exact absurd hrs h3
   ·unfold sn at hrs; omega
  ·rw [wfi h1, wfi h1'] at hrs; exact hrs
 ·exact wfi (by omega)
 ·unfold foc
  split
  ·exact hq1
  ·exact hr
theorem wpR (q : Nat) (l : wac) (s : Nat) : waa (wbA [q] l) s = if s = q then none else waa l s := by
 rw [wgx]; simp
theorem Sub.unfocus {α : Type} (c i q : Nat) {F : Nat → α → PV} {g : α → Row} [NestF F] [NestG g] {L : List α} (x : α) {l l' : wac} {e' : List (Nat × PV)} (hi : i < L.length) (hs : σ.heap = waB c ((waK g L).set i none) l) (hlow : wcD l) (hq : waa l q = some (g x)) (hq1 : 1000 ≤ q) (hq2 : q < 1000000)
  (hl : wcU (unf c i q) (wbA [q] l) = l') (he : wgy (unf c i q) σ.env = e') (hd : σ.dfr = []) : Sub G N σ ⟨e', waB c (waK g (L.set i x)) l', σ.dfr, σ.gh⟩ := by
 subst hl he
 have hsn : ∀ j, waa σ.heap (sn c j) = if i = j then none else (L[j]?).map g := fun j => by rw [hs, wdC j hlow, wit]
 have hlo : ∀ r, r < 1000000 → waa σ.heap r = waa l r := fun r h => by rw [hs, wbe h]
 have hcase : ∀ r x', waa σ.heap r = some x' → (∃ j, r = sn c j ∧ i ≠ j ∧ (L[j]?).map g = some x') ∨ (r < 1000000 ∧ waa l r = some x') := fun r x' h => by
  rw [hs] at h
  rcases wej h with ⟨j, h1, h2⟩ | h
  ·rw [wit] at h2
   split at h2
   ·cases h2
   ·rename_i hij; exact .inl ⟨j, h1, hij, h2⟩
  ·by_cases hr : r < 1000000
   ·exact .inr ⟨hr, h⟩
   ·rw [wb5 hlow r (by omega)] at h; cases h
 have hget' : ∀ s, waa (wcU (unf c i q) (wbA [q] l)) s = if s = q then none else (waa l s).map (Row.ren (unf c i q)) := fun s => by
  rw [wfA, wpR]; split <;> rfl
 have hlow' : wcD (wcU (unf c i q) (wbA [q] l)) := by
  have h1 : ∀ l : wac, wcD l → wcD (wcU (unf c i q) l) := fun l => by
   induction l with
   | nil => exact fun h => h
   | cons y l ih => obtain ⟨s, y⟩ := y; exact fun h => ⟨h.1, ih h.2⟩
  have h2 : ∀ l : wac, wcD l → wcD (wbA [q] l) := fun l => by
   induction l with
   | nil => exact fun h => h
   | cons y l ih =>
    obtain ⟨s, y⟩ := y
    intro h
    simp only [wbA]
    split
    ·exact ih h.2
    ·exact ⟨h.1, ih h.2⟩
  exact h1 _ (h2 l hlow)
 have hgx : ∀ j, waa (waB c (waK g (L.set i x)) (wcU (unf c i q) (wbA [q] l))) (sn c j) = if i = j then some (g x) else (L[j]?).map g := fun j => by
  rw [wdC j hlow', wcx, List.getElem?_set]
  split
  ·rename_i e; subst e; simp [hi]
  ·rfl
 refine Sub.ren (ρ := unf c i q) ⟨fun t => wiJ _ _ t, fun r y hy => ?_, fun s y hy => ?_, fun r s y z hy hz hrs => ?_, fun r y hy hr => ?_, fun r y hy hr => ?_, by rw [hd]; rfl, rfl⟩
 ·rcases hcase r y hy with ⟨j, rfl, hij, h2⟩ | ⟨h1, h2⟩
  ·rw [wfN (by unfold sn; omega), hgx, if_neg hij, h2]
   cases hj : L[j]? with
   | none => rw [hj] at h2; cases h2
   | some z => rw [hj] at h2; simp only [Option.map_some, Option.some.injEq] at h2; subst h2; rw [NestG.ren]
  ·by_cases hrq : r = q
   ·subst hrq
    rw [unf_at, hgx, if_pos rfl]
    rw [hq] at h2; cases h2
    rw [NestG.ren]
   ·rw [wfN hrq, wbe h1, hget', if_neg hrq, h2]; rfl
 ·rcases wej hy with ⟨j, rfl, h2⟩ | h
  ·rw [wcx, List.getElem?_set] at h2
   by_cases hij : i = j
   ·subst hij
    exact ⟨q, g x, (hlo q hq2).trans hq, unf_at.symm⟩
   ·rw [if_neg hij] at h2
    exact ⟨sn c j, y, by rw [hsn, if_neg hij]; exact h2, by rw [wfN (by unfold sn; omega)]⟩
  ·rw [hget'] at h
   split at h
   ·cases h
   ·rename_i hsq
    simp only [Option.map_eq_some_iff] at h
    obtain ⟨y', h1, _⟩ := h
    have hr : s < 1000000 := Nat.lt_of_not_le fun hge => by rw [wb5 hlow s hge] at h1; cases h1
    exact ⟨s, y', (hlo s hr).trans h1, (wfN hsq).symm⟩
 ·rcases hcase r y hy with ⟨j, rfl, hij, h2⟩ | ⟨h1, h2⟩ <;> rcases hcase s z hz with ⟨j', rfl, hij', h2'⟩ | ⟨h1', h2'⟩
  ·rw [wfN (by unfold sn; omega), wfN (by unfold sn; omega)] at hrs; exact hrs
  ·rw [wfN (by unfold sn; omega)] at hrs
   unfold unf at hrs
   split at hrs
   ·exact absurd (wkL hrs).symm hij
   ·exact hrs
  ·rw [wfN (s := sn c j') (by unfold sn; omega)] at hrs
   unfold unf at hrs
   split at hrs
   ·exact absurd (wkL hrs) hij'
   ·exact hrs
  ·unfold unf at hrs
   split at hrs <;> split at hrs
   ·rename_i e e'; rw [e, e']
   ·unfold sn at hrs; omega
   ·unfold sn at hrs; omega
   ·exact hrs
 ·exact wfN (by omega)
 ·unfold unf
  split
  ·unfold sn; omega
  ·exact hr
theorem Sub.voidEl (s j e k r : Nat) {x : Row} {p p' : PV} (hs : waa σ.heap s = some x) (hk1 : 1 ≤ x.k) (hels : x.els[j]? = some p) (hpb : wa0 p = false) (hr0 : waa σ.heap r = none) (hr : 1000 ≤ r)
  (hval : ∀ (w : World) (X : Nat → Prop) (φ : Nm) (H : wac) (v : Value), waa H r = some { e, k, els := [] } → φ r = none → RepV w X φ H v p → RepV w X φ H v p') :
  Sub G N σ { env := σ.env, heap := waj (waj σ.heap s { x with els := x.els.set j p' }) r { e, k, els := [] }, dfr := σ.dfr, gh := σ.gh } := by
 intro P B a w φ hrep
 have hsr : s ≠ r := fun h => by subst h; rw [hs] at hr0; cases hr0
 have hgetr : waa (waj (waj σ.heap s { x with els := x.els.set j p' }) r { e, k, els := [] }) r = some { e, k, els := [] } := by rw [wag]; simp
 have hgets : waa (waj (waj σ.heap s { x with els := x.els.set j p' }) r { e, k, els := [] }) s = some { x with els := x.els.set j p' } := by
  rw [wag, if_neg (Ne.symm hsr), wag]; simp
 have hgeto : ∀ t, t ≠ r → t ≠ s → waa (waj (waj σ.heap s { x with els := x.els.set j p' }) r { e, k, els := [] }) t = waa σ.heap t := fun t h1 h2 => by
  rw [wag, if_neg (Ne.symm h1), wag, if_neg (Ne.symm h2)]
 obtain ⟨H2, hH2⟩ : ∃ H2, H2 = waj (waj σ.heap s { x with els := x.els.set j p' }) r { e, k, els := [] } := ⟨_, rfl⟩
 rw [← hH2] at hgetr hgets hgeto ⊢
 have hback : ∀ t y, t ≠ r → waa H2 t = some y → ∃ y', waa σ.heap t = some y' ∧ y.k = y'.k ∧ y.e = y'.e ∧ y.els.length = y'.els.length := fun t y h1 h => by
  by_cases h2 : t = s
  ·subst h2; rw [hgets] at h; cases h; exact ⟨x, hs, rfl, rfl, by simp⟩
  ·rw [hgeto t h1 h2] at h; exact ⟨y, h, rfl, rfl, rfl⟩
 have hrow : ∀ b, waC (upd φ r none) H2 b → waC φ σ.heap b := by
  rintro b ⟨t, y, h1, h2⟩
  by_cases ht : t = r
  ·subst ht; simp [upd] at h2
  ·simp only [upd, ht, if_false] at h2
   obtain ⟨y', h3, _⟩ := hback t y ht h1
   exact ⟨t, y', h3, h2⟩
 have hown : ∀ b, own (upd φ r none) H2 b → own φ σ.heap b := fun b h => h.imp (hrow b) id
 have hext : Ext w B.X φ σ.heap w (upd φ r none) H2 := by
  refine ⟨fun t y h => ?_, fun b h => ⟨h.1, h.2.1, fun ho => h.2.2 (hown b ho)⟩, fun b h => ⟨h.1, fun ho => h.2 (hown b ho)⟩, fun _ _ => rfl, fun t y b _ _ c e f hh => ⟨c, e, f, hh, rfl⟩⟩
  have htr : t ≠ r := fun e => by subst e; rw [hr0] at h; cases h
  by_cases ht : t = s
  ·subst ht; rw [hs] at h; cases h
   exact ⟨_, hgets, rfl, fun _ => by simp, by simp [upd, htr]⟩
  ·exact ⟨y, (hgeto t htr ht).trans h, rfl, fun _ => rfl, by simp [upd, htr]⟩
 have hval' : ∀ v, RepV w B.X φ σ.heap v p → RepV w B.X (upd φ r none) H2 v p' := fun v hv => hval _ _ _ _ v hgetr (by simp [upd]) (hv.ext hext)
 refine ⟨upd φ r none, Rep.of_sit ⟨⟨fun t y b ht hb => ?_, fun t y ht hb => ?_, fun t u y z b ht hu hb hb' => ?_, fun b hT => ⟨(hrep.heap.far b hT).1, (hrep.heap.far b hT).2.1, fun h => (hrep.heap.far b hT).2.2 (hrow b h)⟩⟩, hrep.keeps, fun t y b ht hb => ?_, fun t y ht hp' => ?_, fun t y b ht hp' hb => ?_, ?_, hrep.tnew, wdW (w := w) (φ := φ) (H := σ.heap) hrep.inv rfl rfl rfl rfl (Nat.le_refl _) (fun _ _ _ => rfl) (fun b hb => .inl (hrow b hb))⟩ hrep.size (fun t => (hrep.env t).ext hext) (hrep.dfr.ext hext)⟩
 ·have htr : t ≠ r := fun e => by subst e; simp [upd] at hb
  simp only [upd, htr, if_false] at hb
  by_cases h : t = s
  ·subst h; rw [hgets] at ht; cases ht
   refine (hrep.heap.rows t x b hs hb).turn rfl rfl (by simp) (fun _ _ h => h) (hrep.heap.rows t x b hs hb).free (fun m hm hm' v hv => ?_) fun z hz => hz.set (hz.past hels hpb) p'
   by_cases hjm : j = m
   ·subst hjm
    have e1 : x.els[j] = p := (List.getElem?_eq_some_iff.1 hels).2
    rw [e1] at hv
    simpa using hval' v hv
   ·have e1 : (x.els.set j p')[m] = x.els[m] := List.getElem_set_ne hjm _
    rw [e1]; exact hv.ext hext
  ·rw [hgeto t htr h] at ht
   exact (hrep.heap.rows t y b ht hb).ext hext rfl
 ·by_cases htr : t = r
  ·subst htr; rw [hgetr] at ht; cases ht; rfl
  ·simp only [upd, htr, if_false] at hb
   obtain ⟨y', h1, _, _, h4⟩ := hback t y htr ht
   have := hrep.heap.void t y' h1 hb
   rw [this] at h4
   exact List.eq_nil_of_length_eq_zero h4
 ·have htr : t ≠ r := fun e => by subst e; simp [upd] at hb
  have hur : u ≠ r := fun e => by subst e; simp [upd] at hb'
  simp only [upd, htr, hur, if_false] at hb hb'
  obtain ⟨y', h1, _⟩ := hback t y htr ht
  obtain ⟨z', h2, _⟩ := hback u z hur hu
  exact hrep.heap.inj t u y' z' b h1 h2 hb hb'
 ·have htr : t ≠ r := fun e => by subst e; simp [upd] at hb
  simp only [upd, htr, if_false] at hb
  obtain ⟨y', h1, _⟩ := hback t y htr ht
  exact hrep.new t y' b h1 hb
 ·have hlt : t < 1000 := by simpa [pinned] using hp'
  have htr : t ≠ r := by omega
  simp only [upd, htr, if_false]
  obtain ⟨y', h1, _⟩ := hback t y htr ht
  exact hrep.pins t y' h1 hp'
 ·have hlt : t < 1000 := by simpa [pinned] using hp'
  have htr : t ≠ r := by omega
  simp only [upd, htr, if_false] at hb
  obtain ⟨y', h1, _⟩ := hback t y htr ht
  exact hrep.psz t y' b h1 hp' hb
 ·exact hrep.glob.ext hext (fun g x hm => by obtain ⟨_, _, _, _, _, h2, _⟩ := hrep.glob g x hm; exact fun ho => h2 (hown g ho))
theorem wrT {w : World} {X : Nat → Prop} {φ : Nm} {H : wac} {v : Value} {p : PV} {cs : List PV} {r e k i : Nat} (hp : wdr p = true) (hcs : waz p = some cs) (hi : cs[i]? = some (.d .nilslice)) (hk : 1 ≤ k) (hg : waa H r = some { e, k, els := [] }) (hφ : φ r = none) (hv : RepV w X φ H v p) : RepV w X φ H v (.agg (cs.set i (.slc r 0 0))) := by
 obtain ⟨vs, rfl⟩ := RepV.agg_of hp hv
 have h1 := wc4 hcs hv
 have hil : i < cs.length := (List.getElem?_eq_some_iff.1 hi).1
 have h2 : RepV w X φ H (vs.getD i undef) (.slc r 0 0) := by
  have h3 := h1.rep i hil
  rw [(List.getElem?_eq_some_iff.1 hi).2] at h3
  have h4 := wei (waL h3)
  simp only [Value.cells] at h4
  rw [h4]
  exact .slc0 hg hφ hk (by simp)
 have h5 := h1.set i h2 (by have := h1.flat i hil; simpa only [Value.cells] using this)
 have h6 : (Value.agg vs).cells.setIfInBounds i (vs.getD i undef) = vs := by
  apply Array.ext
  ·simp [Value.cells]
  ·intro j h1 h2
   by_cases hji : i = j
   ·subst hji; simp [Value.cells, Array.getD, h2]
   ·exact Array.getElem_setIfInBounds_ne h2 hji
 rw [h6] at h5
 exact .agg h5.size h5.rep h5.flat
theorem wrU {w : World} {X : Nat → Prop} {φ : Nm} {H : wac} {v : Value} {r e k : Nat} (hk : 1 ≤ k) (hg : waa H r = some { e, k, els := [] }) (hφ : φ r = none) (hv : RepV w X φ H v (.d .nilslice)) : RepV w X φ H v (.slc r 0 0) := by
 have h4 := wei (waL hv)
 rw [h4]
 exact .slc0 hg hφ hk (by simp)
theorem Sub.push {α : Type} (c R e k : Nat) {F : Nat → α → PV} {g : α → Row} {L : List α} (x : α) {l l' : wac} {e1 k1 : Nat} {p : PV} (hs : σ.heap = waB c (waK g L) l) (hlow : wcD l) (hR : waa l R = some ⟨e1, k1, wbp c F L ++ [p]⟩) (hk1 : 1 ≤ k1) (hpb : wa0 p = false)
  (hg : g x = ⟨e, k, []⟩) (hval : ∀ (w : World) (X : Nat → Prop) (φ : Nm) (H : wac) (v : Value), waa H (sn c L.length) = some { e, k, els := [] } → φ (sn c L.length) = none → RepV w X φ H v p → RepV w X φ H v (F (sn c L.length) x))
  (hl : waj l R ⟨e1, k1, wbp c F (L ++ [x])⟩ = l') : Sub G N σ ⟨σ.env, waB c (waK g (L ++ [x])) l', σ.dfr, σ.gh⟩ := by
 subst hl
 have hRl : R < 1000000 := Nat.lt_of_not_le fun h => by rw [wb5 hlow R h] at hR; cases hR
 have hR' : waa σ.heap R = some ⟨e1, k1, wbp c F L ++ [p]⟩ := by rw [hs, wbe hRl]; exact hR
 have hn : waa σ.heap (sn c L.length) = none := by rw [hs, wdC _ hlow, wcx]; simp
 refine (Sub.voidEl R L.length e k (sn c L.length) hR' hk1 (p := p) (by simp [List.getElem?_append, nelF_length]) hpb hn (by unfold sn; omega) hval).trans ?_
 intro P B a w φ hr
 refine ⟨φ, hr.same ?_ rfl⟩
 funext key
 cases key with
 | t t => rfl
 | h s =>
  simp only [St.look, Cont.r.injEq]
  have e0 : (wbp c F L ++ [p]).set L.length (F (sn c L.length) x) = wbp c F (L ++ [x]) := by
   have h1 : (wbp c F L ++ [p]).set L.length (F (sn c L.length) x) = wbp c F L ++ [F (sn c L.length) x] := by
    rw [List.set_append]; simp [nelF_length]
   rw [h1]; exact wrg _ L x
  have hlow' : wcD (waj l R ⟨e1, k1, wbp c F (L ++ [x])⟩) := by
   have : ∀ l : wac, wcD l → wcD (waj l R ⟨e1, k1, wbp c F (L ++ [x])⟩) := fun l => by
    induction l with
    | nil => exact fun _ => ⟨hRl, trivial⟩
    | cons y l ih =>
     obtain ⟨s, y⟩ := y
     intro h
     simp only [waj]
     split
     ·exact ⟨h.1, h.2⟩
     ·exact ⟨h.1, ih h.2⟩
   exact this l hlow
  rw [wag, wag, e0]
  by_cases h1 : sn c L.length = s
  ·subst h1
   rw [if_pos rfl, wdC _ hlow', wcx]
   simp [hg]
  ·rw [if_neg h1]
   by_cases h2 : R = s
   ·subst h2
    rw [if_pos rfl, wbe hRl, wag, if_pos rfl]
   ·rw [if_neg h2, hs]
    by_cases hlt : s < 1000000
    ·rw [wbe hlt, wbe hlt, wag, if_neg h2]
    ·have hl1 := wb5 hlow s (by omega)
     have hl2 := wb5 hlow' s (by omega)
     have hd : ∀ (M : List (Option Row)) (l : wac), waa l s = none → waa (waB c M l) s = waa (wb1 c 0 M) s := fun M l hl => by
      simp only [waB, wd2, hl]; cases waa (wb1 c 0 M) s <;> rfl
     rw [hd _ _ hl1, hd _ _ hl2]
     by_cases hex : ∃ j, s = sn c j
     ·obtain ⟨j, rfl⟩ := hex
      have hj : j ≠ L.length := fun e => h1 (by rw [e])
      simp only [wfI, Nat.zero_le, if_true, Nat.sub_zero, wcx]
      rw [List.getElem?_append]
      by_cases hjl : j < L.length
      ·rw [if_pos hjl]
      ·rw [if_neg hjl, List.getElem?_eq_none (by omega), List.getElem?_eq_none (by simp; omega)]
     ·have hno : ∀ (M : List (Option Row)), waa (wb1 c 0 M) s = none := fun M => by
       cases hh : waa (wb1 c 0 M) s with
       | none => rfl
       | some y => obtain ⟨j, h3, _⟩ := wdJ M 0 hh; exact absurd ⟨j, h3⟩ hex
      rw [hno, hno]
end
class NestP {α : Type} (F : Nat → α → PV) (g : α → Row) (pd : α → PD) : Prop where
 frz : ∀ H r x, waa H r = some (g x) → frz H (F r x) = some (pd x)
def wi6 : List (Nat × PV) → Prop
 | [] => True
 | (_, v) :: l => ((rowsOf v).all fun r => decide (r < 1000000)) = true ∧ wi6 l
theorem wjN : ∀ {l : List (Nat × PV)}, wi6 l → ∀ t, ∀ r ∈ rowsOf (wam l t), r < 1000000
 | [], _, t, r, h => by simp [wam, rowsOf] at h
 | (s, v) :: l, h, t, r, hr => by
  simp only [wam] at hr
  split at hr
  ·have := List.all_eq_true.1 h.1 r hr
   simpa using this
  ·exact wjN h.2 t r hr
def wlh (R : Nat) : wac → Prop
 | [] => True
 | (s, x) :: l => (s = R ∨ ((rowsOfL x.els).all fun r => decide (r < 1000000)) = true) ∧ wlh R l
theorem wlD {R : Nat} : ∀ {l : wac}, wlh R l → ∀ s y, waa l s = some y → s ≠ R → ∀ r ∈ rowsOfL y.els, r < 1000000
 | [], _, s, y, h, _, _, _ => by simp [waa] at h
 | (t, x) :: l, h, s, y, hs, hne, r, hr => by
  simp only [waa] at hs
  split at hs
  ·rename_i e; subst e; cases hs
   rcases h.1 with h1 | h1
   ·exact absurd h1 hne
   ·simpa using List.all_eq_true.1 h1 r hr
  ·exact wlD h.2 s y hs hne r hr
section
variable {G : List (Nat × PD)} {N : Nat} {σ : St}
theorem Sub.unnest {α : Type} (c R : Nat) {F : Nat → α → PV} {g : α → Row} (pd : α → PD) [NestF F] [NestG g] [NestP F g pd] {L : List α} {l l' : wac} {e k : Nat} (hs : σ.heap = waB c (waK g L) l) (hlow : wcD l) (hR : waa l R = some ⟨e, k, wbp c F L⟩)
  (henv : wi6 σ.env) (hrows : wlh R l) (hd : σ.dfr = []) (hgh : σ.gh = none) (hl : waj l R ⟨e, k, dl (wab pd L)⟩ = l') : Sub G N σ ⟨σ.env, l', σ.dfr, σ.gh⟩ := by
 subst hl
 intro P B a w φ hr
 have hRl : R < 1000000 := Nat.lt_of_not_le fun h => by rw [wb5 hlow R h] at hR; cases hR
 have hsn : ∀ j, waa σ.heap (sn c j) = (L[j]?).map g := fun j => by rw [hs, wdC j hlow, wcx]
 have hlo : ∀ r, r < 1000000 → waa σ.heap r = waa l r := fun r h => by rw [hs, wbe h]
 have hsmall : ∀ s y, waa l s = some y → s < 1000000 := fun s y h => Nat.lt_of_not_le fun h2 => by rw [wb5 hlow s h2] at h; cases h
 have hback : ∀ s y, waa (waj l R ⟨e, k, dl (wab pd L)⟩) s = some y → ∃ y', waa σ.heap s = some y' ∧ y.k = y'.k ∧ y.e = y'.e ∧ y.els.length = y'.els.length ∧ s < 1000000 := fun s y h => by
  rw [wag] at h
  split at h
  ·rename_i e1; subst e1; cases h
   exact ⟨_, (hlo R hRl).trans hR, rfl, rfl, by simp [dl, wab, nelF_length], hRl⟩
  ·exact ⟨y, (hlo s (hsmall s y h)).trans h, rfl, rfl, rfl, hsmall s y h⟩
 have hrow : ∀ b, waC φ (waj l R ⟨e, k, dl (wab pd L)⟩) b → waC φ σ.heap b := by
  rintro b ⟨s, y, h1, h2⟩
  obtain ⟨y', h3, _⟩ := hback s y h1
  exact ⟨s, y', h3, h2⟩
 have hown : ∀ b, own φ (waj l R ⟨e, k, dl (wab pd L)⟩) b → own φ σ.heap b := fun b h => h.imp (hrow b) id
 have hok : ∀ b, okd w B.X φ σ.heap b → okd w B.X φ (waj l R ⟨e, k, dl (wab pd L)⟩) b := fun b h => ⟨h.1, h.2.1, fun ho => h.2.2 (hown b ho)⟩
 have hext : ExtU ((List.range L.length).map (sn c)) w B.X φ σ.heap w φ (waj l R ⟨e, k, dl (wab pd L)⟩) := by
  refine ⟨fun s x hns h => ?_, hok, fun b h => ⟨h.1, fun ho => h.2 (hown b ho)⟩, fun _ _ => rfl, fun s x b _ h1 h2 c' e' f' hh => ⟨c', e', f', hh, rfl⟩⟩
  have h0 := h
  rw [hs] at h
  rcases wej h with ⟨j, rfl, h2⟩ | h
  ·rw [wcx] at h2
   have hj : j < L.length := by
    cases hj : L[j]? with
    | none => rw [hj] at h2; cases h2
    | some z => exact (List.getElem?_eq_some_iff.1 hj).1
   exact absurd (List.mem_map.2 ⟨j, by simpa using hj, rfl⟩) hns
  ·by_cases hsR : R = s
   ·subst hsR; rw [hR] at h; cases h
    exact ⟨⟨e, k, dl (wab pd L)⟩, by rw [wag, if_pos rfl], rfl, fun _ => by simp [dl, wab, nelF_length], rfl⟩
   ·exact ⟨x, by rw [wag, if_neg hsR]; exact h, rfl, fun _ => rfl, rfl⟩
 have hlowval : ∀ {v p}, RepV w B.X φ σ.heap v p → (∀ r ∈ rowsOf p, r < 1000000) → RepV w B.X φ (waj l R ⟨e, k, dl (wab pd L)⟩) v p := fun {v p} hv hp => hv.extU hext fun r hr hm => by
  obtain ⟨j, _, rfl⟩ := List.mem_map.1 hm
  have := hp _ hr
  unfold sn at this; omega
 have hsub : ∀ j x b, waa σ.heap (sn c j) = some x → φ (sn c j) = some b → okd w B.X φ (waj l R ⟨e, k, dl (wab pd L)⟩) b := fun j x b hx hb => ⟨hr.heap.lt hx hb, (hr.heap.rows _ x b hx hb).free, fun ho => by
  rcases ho with ⟨s, y, hy, hs'⟩ | hT
  ·obtain ⟨y', h3, _, _, _, h4⟩ := hback s y hy
   have e1 := hr.heap.inj s (sn c j) y' x b h3 hx hs' hb
   subst e1; unfold sn at h4; omega
  ·exact (hr.heap.far b hT).2.2 ⟨_, x, hx, hb⟩⟩
 refine ⟨φ, Rep.of_sit ⟨⟨fun s y b hy hb => ?_, fun s y hy hb => ?_, fun s t y z b hy hz hb hb' => ?_, fun b hT => ⟨(hr.heap.far b hT).1, (hr.heap.far b hT).2.1, fun ho => (hr.heap.far b hT).2.2 (hrow b ho)⟩⟩, hr.keeps, fun s y b hy hb => ?_, fun s y hy hp => ?_, fun s y b hy hp hb => ?_, ?_, hr.tnew, ?_⟩ hr.size (fun t => hlowval (hr.env t) (wjN henv t)) ?_⟩
 ·rw [wag] at hy
  by_cases hsR : R = s
  ·subst hsR
   rw [if_pos rfl] at hy; cases hy
   refine (hr.heap.rows R _ b ((hlo R hRl).trans hR) hb).turn rfl rfl (by simp [dl, wab, nelF_length]) (fun _ _ h => h) (hr.heap.rows R _ b ((hlo R hRl).trans hR) hb).free (fun i hi hi' v hv => ?_) fun z hz => ?_
   ·have hi2 : i < L.length := by simpa [nelF_length] using hi
    have e1 : (wbp c F L)[i] = F (sn c i) L[i] := by
     have := weZ c F L i
     rw [List.getElem?_eq_getElem hi, List.getElem?_eq_getElem hi2] at this
     simpa using this
    have e2 : (dl (wab pd L))[i] = .d (pd L[i]) := by simp [dl, wab]
    rw [e1] at hv
    rw [e2]
    have hgi : waa σ.heap (sn c i) = some (g L[i]) := by rw [hsn, List.getElem?_eq_getElem hi2]; rfl
    refine .d (wkB hr.heap hok hv (fun r hr' x b hx hb => ?_) (NestP.frz σ.heap (sn c i) L[i] hgi))
    have := NestF.rows _ _ _ hr'
    subst this
    exact hsub i x b hx hb
   ·have := hz.zero_of fun p hp => by
     obtain ⟨i, hi, rfl⟩ := List.getElem_of_mem hp
     have hi2 : i < L.length := by simpa [nelF_length] using hi
     have := weZ c F L i
     rw [List.getElem?_eq_getElem hi, List.getElem?_eq_getElem hi2] at this
     simp only [Option.map_some, Option.some.injEq] at this
     rw [this]; exact NestF.byte _ _
    subst this; exact .zero _
  ·rw [if_neg hsR] at hy
   have hy' := (hlo s (hsmall s y hy)).trans hy
   refine (hr.heap.rows s y b hy' hb).turn rfl rfl rfl (fun _ _ h => h) (hr.heap.rows s y b hy' hb).free (fun i hi _ v hv => hlowval hv fun r hr' => wlD hrows s y hy (Ne.symm hsR) r (wdB hi hr')) fun _ h => h
 ·obtain ⟨y', h1, _, _, h4, _⟩ := hback s y hy
  have := hr.heap.void s y' h1 hb
  rw [this] at h4
  exact List.eq_nil_of_length_eq_zero h4
 ·obtain ⟨y', h1, _⟩ := hback s y hy
  obtain ⟨z', h2, _⟩ := hback t z hz
  exact hr.heap.inj s t y' z' b h1 h2 hb hb'
 ·obtain ⟨y', h1, _⟩ := hback s y hy
  exact hr.new s y' b h1 hb
 ·obtain ⟨y', h1, _⟩ := hback s y hy
  exact hr.pins s y' h1 hp
 ·obtain ⟨y', h1, _⟩ := hback s y hy
  exact hr.psz s y' b h1 hp hb
 ·intro n y hm
  obtain ⟨c', e', f', v, h1, h2, h3, h4, h5, h6⟩ := hr.glob n y hm
  exact ⟨c', e', f', v, h1, fun ho => h2 (hown n ho), h3.mono hok (fun _ _ => rfl), h4, h5, h6⟩
 ·rw [hgh]
  have := hr.inv
  rw [hgh] at this
  exact this
 ·have := hr.dfr
  rw [hd] at this ⊢
  refine this.map (f := id) (fun D hD => ⟨hok D hD, rfl⟩) (fun p hp => by simp at hp)
end
theorem wmA {gl : List (Nat × Nat)} (h : (gl.all fun p => decide (p.1 < 1000000)) = true) {s : Nat} (hs : 1000000 ≤ s) : wax gl s = s := by
 induction gl with
 | nil => rfl
 | cons p l ih =>
  obtain ⟨a, b⟩ := p
  simp only [List.all_cons, Bool.and_eq_true, decide_eq_true_eq] at h
  simp only [wax]
  rw [if_neg (by omega)]
  exact ih h.2
theorem wrj {gl : List (Nat × Nat)} (h : (gl.all fun p => decide (p.2 < 1000000)) = true) {s : Nat} (hs : s < 1000000) : wax gl s < 1000000 := by
 induction gl with
 | nil => exact hs
 | cons p l ih =>
  obtain ⟨a, b⟩ := p
  simp only [List.all_cons, Bool.and_eq_true, decide_eq_true_eq] at h
  simp only [wax]
  split
  ·exact h.1
  ·exact ih h.2
theorem wmB {α : Type} {c : Nat} {F : Nat → α → PV} [NestF F] {L : List α} {gl : List (Nat × Nat)} (h : (gl.all fun p => decide (p.1 < 1000000)) = true) : renL (wax gl) (wbp c F L) = wbp c F L := by
 rw [wev]
 apply List.ext_getElem?
 intro i
 rw [List.getElem?_map, weZ]
 cases L[i]? with
 | none => rfl
 | some x => simp only [Option.map_some, NestF.ren]; rw [wmA h (by unfold sn; omega)]
theorem wmC {α : Type} {c : Nat} {F : Nat → α → PV} [NestF F] {L : List α} : cleanL (wbp c F L) := by
 have : ∀ l : List PV, (∀ (i : Nat) (p : PV), l[i]? = some p → clean p) → cleanL l := fun l => by
  induction l with
  | nil => exact fun _ => trivial
  | cons p l ih => exact fun h => ⟨h 0 p rfl, ih fun i q hq => h (i + 1) q (by simpa using hq)⟩
 refine this _ fun i p hp => ?_
 rw [weZ, Option.map_eq_some_iff] at hp
 obtain ⟨x, _, rfl⟩ := hp
 exact NestF.clean _ _
def wmD (g : Nat → Nat) (H : wac) : wac → Prop
 | [] => True
 | (s, x) :: l => ((H.any fun y => g y.1 == s) = true ∨ ((rowsOfL x.els).all fun r => decide (r < 1000000)) = true) ∧ wmD g H l
theorem wmE {g : Nat → Nat} {H : wac} : ∀ {l : wac}, wmD g H l → ∀ t y, waa l t = some y → (∀ r x, waa H r = some x → g r ≠ t) → ∀ s ∈ rowsOfL y.els, s < 1000000
 | [], _, t, y, h, _, _, _ => by simp [waa] at h
 | (s, x) :: l, h, t, y, hy, hn, r, hr => by
  simp only [waa] at hy
  split at hy
  ·rename_i e; subst e; cases hy
   rcases h.1 with h1 | h1
   ·obtain ⟨r', x', h2, h3⟩ := whb h1
    exact absurd h3 (hn r' x' h2)
   ·simpa using List.all_eq_true.1 h1 r hr
  ·exact wmE h.2 t y hy hn r hr
section
variable {P : Program} {G : List (Nat × PD)} {ro : Option Nat} {N : Nat} {ops : Array Oper} {σ σ' : St} {o : Oper} {rest : List Oper}
theorem OpT.relook {K : St → Prop} (h : OpT P G ro N o σ (fun τ => τ.look = σ'.look ∧ τ.rest = σ'.rest)) (hK : K σ') : OpT P G ro N o σ K :=
 fun B hro a w φ hr next Q hn => h B hro a w φ hr next Q fun τ a' w' φ' h1 h2 => hn σ' a' w' φ' hK (h2.same h1.1 h1.2)
theorem OpT.callD {α : Type} {nc : Nat} {g : α → Row} [NestG g] {L L' : List α} {c : Call} {f : FuncId} {xo : Operand} {caps args : List PV} {res : PV} {lH lH' lc : wac} {K : St → Prop} (gl : List (Nat × Nat)) (gs : List Nat)
    (hf : ObjFn P G f args (waB nc (waK g L) lH) res (waB nc (waK g L') lH')) (hs : σ.heap = waB nc (waK g L) lc) (hlH : wcD lH) (hlH' : wcD lH') (hlc : wcD lc)
    (hg1 : (gl.all fun p => decide (p.1 < 1000000)) = true) (hg2 : (gl.all fun p => decide (p.2 < 1000000)) = true)
    (hd : wan N o.dst) (ho : o.op = .call c) (hc : c.callee = .value xo) (hx : wcr (σ.eval xo) = some (f, caps)) (hcal : wa1 P f = true)
    (hrow : wfd lc (wax gl) (waB nc (waK g L) lH) lH) (hinj : weW (wax gl) lH) (hgs : wkJ (wax gl) gs lH) (him : wnk (wax gl) lH gs) (hgl : (gs.all fun p => decide (p < 1000000)) = true)
    (henv : whN gs σ.env) (henv2 : wi6 σ.env) (hdfr : σ.dfr = []) (hout : wgX (wax gl) lH gs lc) (hout2 : wmD (wax gl) lH lc)
    (ha : wds σ.heap (waB nc (waK g L) lH) (wax gl) (war σ c.args.toList ++ caps) args)
    (hback : whp lH (wax gl) gs (waB nc (waK g L') lH') lH') (hall : whH lH' lH) (hinj2 : weW (wax gl) lH') (hcl : clean res) (hrf : refsIn (waB nc (waK g L') lH') res)
    (hK : K (({ σ with heap := waB nc (waK g L') (wbQ (wax gl) lH' (wbA gs lc)) } : St).put o.dst (res.ren (wax gl)))) : OpT P G ro N o σ K := by
  have hsn : ∀ (M : List α) (l : wac), wcD l → ∀ j, waa (waB nc (waK g M) l) (sn nc j) = (M[j]?).map g := fun M l hl j => by rw [wdC j hl, wcx]
  have hcase : ∀ (M : List α) (l : wac), wcD l → ∀ r x, waa (waB nc (waK g M) l) r = some x → (∃ j, r = sn nc j ∧ (M[j]?).map g = some x) ∨ (r < 1000000 ∧ waa l r = some x) := fun M l hl r x h => by
    rcases wej h with ⟨j, h1, h2⟩ | h
    · rw [wcx] at h2; exact .inl ⟨j, h1, h2⟩
    · by_cases hr : r < 1000000
      · exact .inr ⟨hr, h⟩
      · rw [wb5 hl r (by omega)] at h; cases h
  have hbig : ∀ j, 1000000 ≤ sn nc j := fun j => by unfold sn; omega
  have hlow : ∀ r, r < 1000000 → wax gl r < 1000000 := fun r h => wrj hg2 h
  have hhigh : ∀ j, wax gl (sn nc j) = sn nc j := fun j => wmA hg1 (hbig j)
  have hlen : ∀ (M : List α) j x, (M[j]?).map g = some x → j < M.length ∧ ∃ z, M[j]? = some z ∧ x = g z := fun M j x h => by
    cases hj : M[j]? with
    | none => rw [hj] at h; cases h
    | some z => rw [hj] at h; simp only [Option.map_some, Option.some.injEq] at h; exact ⟨(List.getElem?_eq_some_iff.1 hj).1, z, rfl, h.symm⟩
  have hgsl : ∀ s ∈ gs, s < 1000000 := fun s h => by simpa using List.all_eq_true.1 hgl s h
  have hmem : ∀ s, s ∈ gs ++ (List.range L.length).map (sn nc) ↔ s ∈ gs ∨ ∃ j, j < L.length ∧ s = sn nc j := fun s => by
    simp only [List.mem_append, List.mem_map, List.mem_range]
    exact or_congr Iff.rfl ⟨fun ⟨j, h1, h2⟩ => ⟨j, h1, h2.symm⟩, fun ⟨j, h1, h2⟩ => ⟨j, h1, h2.symm⟩⟩
  have hrefs : ∀ (H0 : wac) (x : α), refsInL H0 (g x).els := fun H0 x => by
    obtain ⟨_, l, h⟩ := NestG.data (g := g) x
    rw [h, wil]; trivial
  have hclean : ∀ (x : α), cleanL (g x).els := fun x => by
    obtain ⟨_, l, h⟩ := NestG.data (g := g) x
    rw [h]
    induction l with
    | nil => trivial
    | cons p l ih => exact ⟨trivial, (by have : ∀ l : List PD, cleanL (l.map PV.d) := fun l => by
                                          induction l with
                                          | nil => trivial
                                          | cons q l ih => exact ⟨trivial, ih⟩
                                         exact this l)⟩
  have hinj0 : ∀ (M : List α) (l : wac), wcD l → weW (wax gl) l → ∀ r s x y, waa (waB nc (waK g M) l) r = some x → waa (waB nc (waK g M) l) s = some y → wax gl r = wax gl s → r = s := fun M l hl hi r s x y h h' he => by
    rcases hcase M l hl r x h with ⟨j, rfl, _⟩ | ⟨h1, h2⟩ <;> rcases hcase M l hl s y h' with ⟨j', rfl, _⟩ | ⟨h1', h2'⟩
    · rw [hhigh, hhigh] at he; exact he
    · rw [hhigh] at he; have := hlow s h1'; have := hbig j; omega
    · rw [hhigh] at he; have := hlow r h1; have := hbig j'; omega
    · exact weX hi r s x y (waW h2) (waW h2') he
  have hnone : ∀ j, L.length ≤ j → waa σ.heap (sn nc j) = none := fun j h => by rw [hs, hsn L lc hlc, List.getElem?_eq_none h]; rfl
  refine OpT.relook (σ' := ({ σ with heap := waB nc (waK g L') (wbQ (wax gl) lH' (wbA gs lc)) } : St).put o.dst (res.ren (wax gl))) ?_ hK
  refine OpT.callU (H := waB nc (waK g L) lH) (g := wax gl) (gs := gs ++ (List.range L.length).map (sn nc)) ho hc hx hcal hf
    ⟨⟨fun r x h => ?_, hinj0 L lH hlH hinj, fun r x h => ?_⟩, fun r x h hr => ?_, fun r x h hr => ?_, fun s h => ?_, fun s h => ?_, fun s h t => ?_, fun s _ => by rw [hdfr]; simp [rowsOfL], fun s h t y hy hn => ?_⟩ ha hd ?_
  · rcases hcase L lH hlH r x h with ⟨j, rfl, h2⟩ | ⟨h1, h2⟩
    · obtain ⟨_, z, _, rfl⟩ := hlen L j x h2
      rw [hhigh, hs, hsn L lc hlc, h2, NestG.ren]
    · rw [hs, wbe (hlow r h1)]; exact (we1 hrow r x h2).1
  · rcases hcase L lH hlH r x h with ⟨j, rfl, h2⟩ | ⟨h1, h2⟩
    · obtain ⟨_, z, _, rfl⟩ := hlen L j x h2; exact hrefs _ z
    · exact (we1 hrow r x h2).2
  · rw [hmem]
    rcases hcase L lH hlH r x h with ⟨j, rfl, h2⟩ | ⟨h1, h2⟩
    · exact .inr ⟨j, (hlen L j x h2).1, hhigh j⟩
    · have := wh0 hgs r x h2
      rw [if_neg (by omega)] at this; exact .inl this
  · rw [hmem]
    rintro (h3 | ⟨j, _, h3⟩)
    · rcases hcase L lH hlH r x h with ⟨j, rfl, h2⟩ | ⟨h1, h2⟩
      · have := hbig j; omega
      · have := wh0 hgs r x h2
        rw [if_pos hr] at this; exact this h3
    · have := hlow r (by omega); have := hbig j; omega
  · rcases (hmem s).1 h with h | ⟨j, h1, rfl⟩
    · obtain ⟨⟨r, x, h2, h3⟩, _⟩ := wh1 him s h
      have hr : r < 1000000 := Nat.lt_of_not_le fun h4 => by rw [wb5 hlH r h4] at h2; cases h2
      exact ⟨r, x, by rw [wbe hr]; exact h2, h3⟩
    · exact ⟨sn nc j, g L[j], by rw [hsn L lH hlH, List.getElem?_eq_getElem h1]; rfl, hhigh j⟩
  · rcases (hmem s).1 h with h | ⟨j, h1, rfl⟩
    · exact (wh1 him s h).2
    · have := hbig j; omega
  · rcases (hmem s).1 h with h | ⟨j, h1, rfl⟩
    · exact wiI henv s h t
    · intro hm; have := wjN henv2 t _ hm; have := hbig j; omega
  · have hy0 := hy
    rw [hs] at hy
    have hty : waa lc t = some y := by
      rcases hcase L lc hlc t y hy with ⟨j, rfl, h2⟩ | ⟨h1, h2⟩
      · exact absurd (hhigh j) (hn (sn nc j) y (by rw [hsn L lH hlH]; exact h2))
      · exact h2
    have hn' : ∀ r x, waa lH r = some x → wax gl r ≠ t := fun r x hx => hn r x (by
      have hr : r < 1000000 := Nat.lt_of_not_le fun h4 => by rw [wb5 hlH r h4] at hx; cases hx
      rw [wbe hr]; exact hx)
    rcases (hmem s).1 h with h | ⟨j, h1, rfl⟩
    · exact wh2 hout s h t y hty hn'
    · intro hm; have := wmE hout2 t y hty hn' _ hm; have := hbig j; omega
  · rintro p H' ⟨rfl, rfl⟩
    have hb : BackU σ (waB nc (waK g L) lH) (waB nc (waK g L') lH') (wax gl) (wax gl) (gs ++ (List.range L.length).map (sn nc)) := by
      refine ⟨fun r x' h hr => ?_, fun r x h hr => ?_, fun r x' h hr => ?_, hinj0 L' lH' hlH' hinj2, fun r x h => ?_⟩
      · rcases hcase L' lH' hlH' r x' h with ⟨j, rfl, h2⟩ | ⟨h1, h2⟩
        · have := hbig j; omega
        · have := (we2 hback r x' h2).1
          rw [if_pos hr] at this
          split at this
          · rename_i y hy; exact ⟨y, by rw [wbe (by omega)]; exact hy, rfl, this.1, fun hk => this.2.resolve_left (by have := this.1; omega)⟩
          · exact this.elim
      · rcases hcase L lH hlH r x h with ⟨j, rfl, h2⟩ | ⟨h1, h2⟩
        · have := hbig j; omega
        · obtain ⟨x', hx'⟩ := Option.isSome_iff_exists.1 (whn hall r x (waW h2))
          exact ⟨x', by rw [wbe h1]; exact hx'⟩
      · rw [hmem]
        rcases hcase L' lH' hlH' r x' h with ⟨j, rfl, h2⟩ | ⟨h1, h2⟩
        · rw [hhigh]
          refine ⟨?_, by have := hbig j; omega⟩
          by_cases hj : j < L.length
          · exact .inr (.inr ⟨j, hj, rfl⟩)
          · exact .inl (hnone j (by omega))
        · have := (we2 hback r x' h2).1
          rw [if_neg (by omega)] at this
          exact ⟨.inr (.inl (by simpa using this.1)), this.2⟩
      · rcases hcase L' lH' hlH' r x h with ⟨j, rfl, h2⟩ | ⟨h1, h2⟩
        · obtain ⟨_, z, _, rfl⟩ := hlen L' j x h2; exact ⟨hrefs _ z, hclean z⟩
        · exact (we2 hback r x h2).2
    refine ⟨wax gl, hb, hcl, hrf, ?_⟩
    have hm := hb.merged
    have hmin : ∀ r x, waa lH' r = some x → waa (wbQ (wax gl) lH' (wbA gs lc)) (wax gl r) = some (x.ren (wax gl)) := (whl (ρ := wax gl) (l := lH') (H0 := wbA gs lc) (fun r s hr hs he => by
      obtain ⟨x, hx⟩ := Option.isSome_iff_exists.1 hr
      obtain ⟨y, hy⟩ := Option.isSome_iff_exists.1 hs
      exact weX hinj2 r s x y (waW hx) (waW hy) he)).1
    have hmout : ∀ s, (∀ r x, waa lH' r = some x → wax gl r ≠ s) → waa (wbQ (wax gl) lH' (wbA gs lc)) s = if s ∈ gs then none else waa lc s := fun s h => ((whl (ρ := wax gl) (l := lH') (H0 := wbA gs lc) (fun r s hr hs he => by
      obtain ⟨x, hx⟩ := Option.isSome_iff_exists.1 hr
      obtain ⟨y, hy⟩ := Option.isSome_iff_exists.1 hs
      exact weX hinj2 r s x y (waW hx) (waW hy) he)).2 s h).trans (wgx _ _ _)
    have hlm : ∀ s, 1000000 ≤ s → waa (wbQ (wax gl) lH' (wbA gs lc)) s = none := fun s h => by
      rw [hmout s fun r x hx e => by
        have hr : r < 1000000 := Nat.lt_of_not_le fun h4 => by rw [wb5 hlH' r h4] at hx; cases hx
        have := hlow r hr; omega]
      split
      · rfl
      · exact wb5 hlc s h
    have hheap : ∀ s, waa (wbQ (wax gl) (waB nc (waK g L') lH') (wbA (gs ++ (List.range L.length).map (sn nc)) σ.heap)) s = waa (waB nc (waK g L') (wbQ (wax gl) lH' (wbA gs lc))) s := fun s => by
      by_cases hex : ∃ r x, waa (waB nc (waK g L') lH') r = some x ∧ wax gl r = s
      · obtain ⟨r, x, h1, rfl⟩ := hex
        rw [hm.inn r x h1]
        rcases hcase L' lH' hlH' r x h1 with ⟨j, rfl, h2⟩ | ⟨h3, h2⟩
        · obtain ⟨_, z, _, rfl⟩ := hlen L' j x h2
          rw [hhigh, NestG.ren]
          have : waa (waB nc (waK g L') (wbQ (wax gl) lH' (wbA gs lc))) (sn nc j) = (((waK g L')[j]?).join) := by
            simp only [waB, wd2, wfI, Nat.zero_le, if_true, Nat.sub_zero, hlm _ (hbig j)]
            cases ((waK g L')[j]?).join <;> rfl
          rw [this, wcx, h2]
        · rw [wbe (hlow r h3), hmin r x h2]
      · have hn : ∀ r x, waa (waB nc (waK g L') lH') r = some x → wax gl r ≠ s := fun r x h1 h2 => hex ⟨r, x, h1, h2⟩
        rw [hm.out s hn, hs]
        by_cases hsl : s < 1000000
        · rw [wbe hsl, wbe hsl]
          have hn' : ∀ r x, waa lH' r = some x → wax gl r ≠ s := fun r x hx => hn r x (by
            have hr : r < 1000000 := Nat.lt_of_not_le fun h4 => by rw [wb5 hlH' r h4] at hx; cases hx
            rw [wbe hr]; exact hx)
          rw [hmout s hn']
          by_cases h1 : s ∈ gs
          · rw [if_pos ((hmem s).2 (.inl h1)), if_pos h1]
          · rw [if_neg h1, if_neg]
            intro h2
            rcases (hmem s).1 h2 with h2 | ⟨j, _, rfl⟩
            · exact h1 h2
            · have := hbig j; omega
        · have hd2 : ∀ (M : List (Option Row)) (l : wac), waa l s = none → waa (waB nc M l) s = waa (wb1 nc 0 M) s := fun M l hl => by
            simp only [waB, wd2, hl]; cases waa (wb1 nc 0 M) s <;> rfl
          rw [hd2 _ _ (hlm s (by omega))]
          have h0 : waa (wb1 nc 0 (waK g L')) s = none := by
            cases hh : waa (wb1 nc 0 (waK g L')) s with
            | none => rfl
            | some y =>
              obtain ⟨j, rfl, h3, _⟩ := wdJ _ 0 hh
              rw [Nat.sub_zero, wcx] at h3
              exact absurd (hhigh j) (hn (sn nc j) y (by rw [hsn L' lH' hlH']; exact h3))
          rw [h0]
          split
          · rfl
          · rename_i hns
            rw [hd2 _ _ (wb5 hlc s (by omega))]
            cases hh : waa (wb1 nc 0 (waK g L)) s with
            | none => rfl
            | some y =>
              obtain ⟨j, rfl, h3, _⟩ := wdJ _ 0 hh
              rw [Nat.sub_zero, wcx] at h3
              exact absurd ((hmem _).2 (.inr ⟨j, (hlen L j y h3).1, rfl⟩)) hns
    refine ⟨?_, by rw [St.put_rest, St.put_rest]; rfl⟩
    funext key
    cases key with
    | t t => cases hdst : o.dst <;> simp [St.look, St.put]
    | h s =>
      have := hheap s
      cases hdst : o.dst <;> simp [St.look, St.put, this]
end
end Go.Pv

namespace Go.Pv
section
variable {P : Program} {G : List (Nat × PD)} {ro : Option Nat} {N : Nat} {ops : Array Oper} {σ σ' : St} {o : Oper} {rest : List Oper}
@[go_sem] theorem nelF_cleanT {α : Type} {c : Nat} {F : Nat → α → PV} [NestF F] {L : List α} : cleanL (wbp c F L) = True := eq_true wmC
theorem wsX {α : Type} (c : Nat) (g : α → Row) : Sub G N σ ⟨σ.env, waB c (waK g []) σ.heap, σ.dfr, σ.gh⟩ := fun _ _ _ _ φ hr => ⟨φ, hr⟩
theorem drp (e' : List (Nat × PV)) (h : wk4 e' σ.env := by (repeat' (first | exact trivial | exact rfl | exact wrN (by (simp only [List.length_append, List.length_set, List.length_replicate, List.length_cons, List.length_nil, Nat.zero_add]; done)) | apply And.intro))) : Sub G N σ ⟨e', σ.heap, σ.dfr, σ.gh⟩ := by
 intro P B a w φ hr
 refine ⟨φ, ⟨hr.size, fun t => ?_, hr.heap, hr.keeps, hr.new, hr.pins, hr.psz, hr.glob, hr.tnew, hr.inv, hr.dfr⟩⟩
 rcases wkr h t with h | h
 ·rw [h]; exact .any _
 ·rw [h]; exact hr.env t
theorem Sub.voidVar (s e k r : Nat) {x : Row} (hs : waa σ.heap s = some x) (hk1 : 1 ≤ x.k) (hels : x.els = [.d .nilslice]) (hr0 : waa σ.heap r = none) (hr : 1000 ≤ r) (hk : 1 ≤ k) :
  Sub G N σ { env := σ.env, heap := waj (waj σ.heap s { x with els := [.slc r 0 0] }) r { e, k, els := [] }, dfr := σ.dfr, gh := σ.gh } := by
 have h := Sub.voidEl (G := G) (N := N) (σ := σ) s 0 e k r (x := x) (p := .d .nilslice) (p' := .slc r 0 0) hs hk1 (by rw [hels]; rfl) rfl hr0 hr fun w X φ H v h1 h2 h3 => wrU hk h1 h2 h3
 rw [hels] at h
 exact h
theorem fcs {α : Type} (c i q : Nat) (y : Row) {F : Nat → α → PV} {g : α → Row} [NestF F] [NestG g] {L : List α} {x : α} {l l' : wac} {e' : List (Nat × PV)} (hx : L[i]? = some x)
  (hy : g x = y := by rfl) (hs : σ.heap = waB c (waK g L) l := by rfl) (hlow : wcD l := by (repeat' (first | exact trivial | decide | apply And.intro))) (hq : waa l q = none := by rfl) (hq1 : 1000 ≤ q := by decide) (hq2 : q < 1000000 := by decide)
  (hl : wcU (foc c i q) l = l' := by (simp only [wcU, Row.ren, renL, PV.ren, dl_ren, mels_ren, optP_ren, wfi, Nat.reduceLT]; rfl)) (he : wgy (foc c i q) σ.env = e' := by (simp only [wgy, renL, PV.ren, optP_ren, wfi, Nat.reduceLT]; rfl)) (hd : σ.dfr = [] := by rfl) :
  Sub G N σ ⟨e', waB c ((waK g L).set i none) ((q, y) :: l'), σ.dfr, σ.gh⟩ := hy ▸ Sub.focus (F := F) c i q hx hs hlow hq hq1 hq2 hl he hd
mutual
theorem PV.ren_id : ∀ p : PV, p.ren id = p
 | .func fn l => by simp only [PV.ren, renL_id l]
 | .agg l => by simp only [PV.ren, renL_id l]
 | .tuple l => by simp only [PV.ren, renL_id l]
 | .ptr .. => by simp only [PV.ren, id]
 | .slc .. => by simp only [PV.ren, id]
 | .mp .. => by simp only [PV.ren, id]
 | .any | .d _ | .b _ | .dptr .. | .bptr .. | .glob _ | .val _ => by simp only [PV.ren]
theorem renL_id : ∀ l : List PV, renL id l = l
 | [] => by simp only [renL]
 | p :: l => by simp only [renL, PV.ren_id p, renL_id l]
end
theorem Row.ren_id (x : Row) : x.ren id = x := by simp only [Row.ren, renL_id]
theorem Sub.same {H : wac} (h : ∀ r, waa H r = waa σ.heap r) : Sub G N σ ⟨σ.env, H, σ.dfr, σ.gh⟩ :=
 Sub.ren (ρ := id) ⟨fun t => (PV.ren_id _).symm, fun r x hx => by rw [Row.ren_id]; exact (h r).trans hx, fun s y hy => ⟨s, y, (h s).symm.trans hy, rfl⟩, fun r s _ _ _ _ e => e, fun _ _ _ _ => rfl, fun _ _ _ hr => hr, by
  show σ.dfr = σ.dfr.map (PV.ren id)
  rw [← wev, renL_id], rfl⟩
def wsk (ρ : Nat → Nat) (o : Option Row) (y : Row) : Prop := match o with
 | some x => x.e = y.e ∧ x.k = y.k ∧ renL ρ x.els = y.els
 | none => False
def wot (ρ : Nat → Nat) (l : wac) : wac → Prop
 | [] => True
 | (s, y) :: m => wsk ρ (waa l s) y ∧ wot ρ l m
theorem wnS {ρ : Nat → Nat} {l : wac} : ∀ {m : wac}, wot ρ l m → ∀ s y, (s, y) ∈ m → wsk ρ (waa l s) y
 | (r, x) :: m, h, s, y, hm => by
  rcases List.mem_cons.1 hm with hm | hm
  ·cases hm; exact h.1
  ·exact wnS h.2 s y hm
theorem wrV {ρ : Nat → Nat} {l m : wac} (h : wot ρ l m) (hall : whH m l) (r : Nat) : waa m r = waa (wcU ρ l) r := by
 rw [wfA]
 cases hm : waa m r with
 | some y =>
  have := wnS h r y (waW hm)
  cases hl : waa l r with
  | none => rw [hl] at this; exact this.elim
  | some x =>
   rw [hl] at this
   obtain ⟨h2, h3, h4⟩ := this
   simp only [Option.map_some, Row.ren, h4]
   cases x; cases y; simp only at h2 h3; subst h2 h3; rfl
 | none =>
  cases hl : waa l r with
  | none => rfl
  | some x => have := whn hall r x (waW hl); rw [hm] at this; cases this
theorem ufc {α : Type} (c i q : Nat) {F : Nat → α → PV} {g : α → Row} [NestF F] [NestG g] {L : List α} (x : α) (l' : wac) {l : wac} {e' : List (Nat × PV)} (hi : i < L.length)
  (hs : σ.heap = waB c ((waK g L).set i none) l := by rfl) (hlow : wcD l := by (repeat' (first | exact trivial | decide | apply And.intro))) (hq : waa l q = some (g x) := by rfl) (hq1 : 1000 ≤ q := by decide) (hq2 : q < 1000000 := by decide)
  (hl : wot (unf c i q) (wbA [q] l) l') (hall : whH l' (wbA [q] l) := by (repeat' (first | exact trivial | exact rfl | apply And.intro))) (he : wgy (unf c i q) σ.env = e' := by rfl) (hd : σ.dfr = [] := by rfl) :
  Sub G N σ ⟨e', waB c (waK g (L.set i x)) l', σ.dfr, σ.gh⟩ := fun P B a w φ hr => by
 obtain ⟨φ, hr⟩ := Sub.unfocus (F := F) c i q x hi hs hlow hq hq1 hq2 rfl he hd P B a w φ hr
 refine Sub.same (fun r => ?_) P B a w φ hr
 simp only [waB, wd2, wrV hl hall]
theorem psh {α : Type} (c R j : Nat) {F : Nat → α → PV} {g : α → Row} {L : List α} (x : α) {l l' : wac} {e k e1 k1 : Nat} {p : PV} {cs : List PV}
  (hs : σ.heap = waB c (waK g L) l := by rfl) (hlow : wcD l := by (repeat' (first | exact trivial | decide | apply And.intro))) (hR : waa l R = some ⟨e1, k1, wbp c F L ++ [p]⟩ := by rfl) (hk1 : 1 ≤ k1 := by decide) (hpb : wa0 p = false := by rfl)
  (hg : g x = ⟨e, k, []⟩ := by rfl) (hk : 1 ≤ k := by decide) (hp : wdr p = true := by rfl) (hcs : waz p = some cs := by rfl) (hi : cs[j]? = some (.d .nilslice) := by rfl) (hF : ∀ r, PV.agg (cs.set j (.slc r 0 0)) = F r x := by (intro r; rfl))
  (hl : waj l R ⟨e1, k1, wbp c F (L ++ [x])⟩ = l' := by (simp only [waj, ↓reduceIte, Nat.reduceEqDiff]; rfl)) : Sub G N σ ⟨σ.env, waB c (waK g (L ++ [x])) l', σ.dfr, σ.gh⟩ :=
 Sub.push c R e k x hs hlow hR hk1 hpb hg (fun w X φ H v h1 h2 h3 => hF _ ▸ wrT hp hcs hi hk h1 h2 h3) hl
theorem unn {α : Type} (c R : Nat) {F : Nat → α → PV} {g : α → Row} (pd : α → PD) [NestF F] [NestG g] [NestP F g pd] {L : List α} {l l' : wac} {e k : Nat}
  (hs : σ.heap = waB c (waK g L) l := by rfl) (hlow : wcD l := by (repeat' (first | exact trivial | decide | apply And.intro))) (hR : waa l R = some ⟨e, k, wbp c F L⟩ := by rfl)
  (henv : wi6 σ.env := by (repeat' (first | exact trivial | exact rfl | apply And.intro))) (hrows : wlh R l := by (repeat' (first | exact trivial | exact .inl rfl | exact .inr rfl | exact .inr (by simp only [go_sem, List.all_nil]) | apply And.intro))) (hd : σ.dfr = [] := by rfl) (hgh : σ.gh = none := by rfl)
  (hl : waj l R ⟨e, k, dl (wab pd L)⟩ = l' := by (simp only [waj, ↓reduceIte, Nat.reduceEqDiff]; rfl)) : Sub G N σ ⟨σ.env, l', σ.dfr, σ.gh⟩ := Sub.unnest (F := F) c R pd hs hlow hR henv hrows hd hgh hl
theorem clD {α : Type} {nc : Nat} {g : α → Row} [NestG g] {L L' : List α} {c : Call} {f : FuncId} {xo : Operand} {caps args : List PV} {res : PV} {lH lH' lc : wac} {Q : St → Prop} (gl : List (Nat × Nat)) (gs : List Nat)
  (hf : ObjFn P G f args (waB nc (waK g L) lH) res (waB nc (waK g L') lH')) (h2 : AOps P G ro N ops rest σ' Q)
  (hd : wan N o.dst := by (simp only [go_sem, ↓reduceIte]; done)) (hg : ∀ {K : St → Prop}, OpT P G ro N o σ K → wfG P G ro N (wbg ops) o σ K := by (intro K k; simp (disch := omega) only [go_sem, ↓reduceIte]; exact k))
  (hs : σ.heap = waB nc (waK g L) lc := by rfl) (hlH : wcD lH := by (repeat' (first | exact trivial | decide | apply And.intro))) (hlH' : wcD lH' := by (repeat' (first | exact trivial | decide | apply And.intro))) (hlc : wcD lc := by (repeat' (first | exact trivial | decide | apply And.intro)))
  (hg1 : (gl.all fun p => decide (p.1 < 1000000)) = true := by rfl) (hg2 : (gl.all fun p => decide (p.2 < 1000000)) = true := by rfl)
  (ho : o.op = .call c := by rfl) (hc : c.callee = .value xo := by rfl) (hx : wcr (σ.eval xo) = some (f, caps) := by rfl) (hcal : wa1 P f = true := by kernel_rfl)
  (hrow : wfd lc (wax gl) (waB nc (waK g L) lH) lH := by (simp (disch := decide) only [wfd, Row.ren, wmB]; simp only [go_sem, ↓reduceIte]; (repeat' (first | exact trivial | exact rfl | exact dyS rfl | exact waT (by (repeat' (first | exact trivial | decide | apply And.intro))) | (simp only [List.length_append, List.length_set, List.length_replicate, List.length_cons, List.length_nil, Nat.zero_add]; exact rfl) | apply And.intro))))
  (hinj : weW (wax gl) lH := by (simp only [weW, wgu, go_sem, ↓reduceIte]; (repeat' (first | exact trivial | (intro h; cases h; done) | apply And.intro))))
  (hgs : wkJ (wax gl) gs lH := by (simp only [wkJ, go_sem, ↓reduceIte]; (repeat' (first | exact trivial | exact rfl | apply And.intro))))
  (him : wnk (wax gl) lH gs := by (repeat' (first | exact trivial | exact rfl | decide | apply And.intro))) (hgl : (gs.all fun p => decide (p < 1000000)) = true := by rfl)
  (henv : whN gs σ.env := by (repeat' (first | exact trivial | exact rfl | apply And.intro))) (henv2 : wi6 σ.env := by (repeat' (first | exact trivial | exact rfl | apply And.intro))) (hdfr : σ.dfr = [] := by rfl)
  (hout : wgX (wax gl) lH gs lc := by (repeat' (first | exact trivial | exact .inl rfl | exact .inr rfl | exact .inr (by simp only [go_sem, List.any_nil]) | apply And.intro)))
  (hout2 : wmD (wax gl) lH lc := by (repeat' (first | exact trivial | exact .inl rfl | exact .inr rfl | exact .inr (by simp only [go_sem, List.all_nil]) | apply And.intro)))
  (ha : wds σ.heap (waB nc (waK g L) lH) (wax gl) (war σ c.args.toList ++ caps) args := by (repeat' (first | exact trivial | exact rfl | exact dyS rfl | apply And.intro | (simp only [go_sem, ↓reduceIte]; done))))
  (hback : whp lH (wax gl) gs (waB nc (waK g L') lH') lH' := by (simp only [whp, go_sem, ↓reduceIte]; (repeat' (first | exact trivial | exact rfl | exact dyS rfl | exact waT (by (repeat' (first | exact trivial | decide | apply And.intro))) | exact wmC | exact .inl trivial | exact .inl rfl | exact .inr rfl | decide | apply And.intro))))
  (hall : whH lH' lH := by (repeat' (first | exact trivial | exact rfl | apply And.intro))) (hinj2 : weW (wax gl) lH' := by (simp only [weW, wgu, go_sem, ↓reduceIte]; (repeat' (first | exact trivial | (intro h; cases h; done) | apply And.intro))))
  (hp : ({ σ with heap := waB nc (waK g L') (wbQ (wax gl) lH' (wbA gs lc)) } : St).put o.dst (res.ren (wax gl)) = σ' := by (simp (disch := decide) only [wbQ, Row.ren, wmB]; simp only [wbA, go_sem, ↓reduceIte]; rfl))
  (hcl : clean res := by (simp only [clean, cleanL, and_self]; done)) (hrf : refsIn (waB nc (waK g L') lH') res := by (first | exact trivial | exact rfl | (simp only [go_sem, ↓reduceIte]; done))) :
  AOps P G ro N ops (o :: rest) σ Q :=
 AOps.consC hd fun K hK => hg (OpT.callD gl gs hf hs hlH hlH' hlc hg1 hg2 hd ho hc hx hcal hrow hinj hgs him hgl henv henv2 hdfr hout hout2 ha hback hall hinj2 hcl hrf (hp ▸ hK _ h2))
end
end Go.Pv

namespace Go.Pv
section
variable {P : Program} {G : List (Nat × PD)} {ro : Option Nat} {N : Nat} {xs : Exc} {σ : St} {o : Oper}
end
end Go.Pv

namespace Go.Pv
structure StringsBuilder where
 addr : Bool
 buf : (List Int)
deriving DecidableEq
instance : Inhabited StringsBuilder := ⟨⟨false, []⟩⟩
structure Band where
 Lo : Int
 Hi : Int
deriving DecidableEq
instance : Inhabited Band := ⟨⟨0, 0⟩⟩
def Band.pd (x : Band) : PD := .agg [(.int .i64 x.Lo), (.int .i64 x.Hi)]
attribute [go_sem] Band.pd
@[go_sem] theorem snoc_Band (l : List Band) (a0 : Int) (a1 : Int) : dl (wab Band.pd l) ++ [PV.d (PD.agg [(.int .i64 a0), (.int .i64 a1)])] = dl (wab Band.pd (l ++ [(⟨a0, a1⟩ : Band)])) := wdk Band.pd l (⟨a0, a1⟩ : Band)
@[go_sem] theorem set_Band (l : List Band) (i : Nat) (a0 : Int) (a1 : Int) : (wab Band.pd l).set i (PD.agg [(.int .i64 a0), (.int .i64 a1)]) = wab Band.pd (l.set i (⟨a0, a1⟩ : Band)) := wdQ Band.pd l i (⟨a0, a1⟩ : Band)
@[go_sem] theorem rep_Band (n : Nat) (a0 : Int) (a1 : Int) : List.replicate n (PD.agg [(.int .i64 a0), (.int .i64 a1)]) = wab Band.pd (List.replicate n (⟨a0, a1⟩ : Band)) := wd7 Band.pd n (⟨a0, a1⟩ : Band)
structure Rule where
 Bands : (List Band)
 Code : Int
deriving DecidableEq
instance : Inhabited Rule := ⟨⟨[], 0⟩⟩
def Rule.pd (x : Rule) : PD := .agg [(.imm 2 (wab Band.pd x.Bands)), (.int .i64 x.Code)]
attribute [go_sem] Rule.pd
@[go_sem] theorem snoc_Rule (l : List Rule) (a0 : (List Band)) (a1 : Int) : dl (wab Rule.pd l) ++ [PV.d (PD.agg [(.imm 2 (wab Band.pd a0)), (.int .i64 a1)])] = dl (wab Rule.pd (l ++ [(⟨a0, a1⟩ : Rule)])) := wdk Rule.pd l (⟨a0, a1⟩ : Rule)
@[go_sem] theorem set_Rule (l : List Rule) (i : Nat) (a0 : (List Band)) (a1 : Int) : (wab Rule.pd l).set i (PD.agg [(.imm 2 (wab Band.pd a0)), (.int .i64 a1)]) = wab Rule.pd (l.set i (⟨a0, a1⟩ : Rule)) := wdQ Rule.pd l i (⟨a0, a1⟩ : Rule)
@[go_sem] theorem rep_Rule (n : Nat) (a0 : (List Band)) (a1 : Int) : List.replicate n (PD.agg [(.imm 2 (wab Band.pd a0)), (.int .i64 a1)]) = wab Rule.pd (List.replicate n (⟨a0, a1⟩ : Rule)) := wd7 Rule.pd n (⟨a0, a1⟩ : Rule)
structure Arr3_Int where
 c0 : Int
 c1 : Int
 c2 : Int
deriving DecidableEq
instance : Inhabited Arr3_Int := ⟨⟨0, 0, 0⟩⟩
def Arr3_Int.pd (x : Arr3_Int) : PD := .agg [(.int .i64 x.c0), (.int .i64 x.c1), (.int .i64 x.c2)]
attribute [go_sem] Arr3_Int.pd
@[go_sem] theorem snoc_Arr3_Int (l : List Arr3_Int) (a0 : Int) (a1 : Int) (a2 : Int) : dl (wab Arr3_Int.pd l) ++ [PV.d (PD.agg [(.int .i64 a0), (.int .i64 a1), (.int .i64 a2)])] = dl (wab Arr3_Int.pd (l ++ [(⟨a0, a1, a2⟩ : Arr3_Int)])) := wdk Arr3_Int.pd l (⟨a0, a1, a2⟩ : Arr3_Int)
@[go_sem] theorem set_Arr3_Int (l : List Arr3_Int) (i : Nat) (a0 : Int) (a1 : Int) (a2 : Int) : (wab Arr3_Int.pd l).set i (PD.agg [(.int .i64 a0), (.int .i64 a1), (.int .i64 a2)]) = wab Arr3_Int.pd (l.set i (⟨a0, a1, a2⟩ : Arr3_Int)) := wdQ Arr3_Int.pd l i (⟨a0, a1, a2⟩ : Arr3_Int)
@[go_sem] theorem rep_Arr3_Int (n : Nat) (a0 : Int) (a1 : Int) (a2 : Int) : List.replicate n (PD.agg [(.int .i64 a0), (.int .i64 a1), (.int .i64 a2)]) = wab Arr3_Int.pd (List.replicate n (⟨a0, a1, a2⟩ : Arr3_Int)) := wd7 Arr3_Int.pd n (⟨a0, a1, a2⟩ : Arr3_Int)
structure Walker where
 k : Int
 s : (List Rule)
 t : (List Rule)
deriving DecidableEq
instance : Inhabited Walker := ⟨⟨0, [], []⟩⟩
def Walker.pd (x : Walker) : PD := .agg [(.int .i64 x.k), (.imm 2 (wab Rule.pd x.s)), (.imm 2 (wab Rule.pd x.t))]
attribute [go_sem] Walker.pd
@[go_sem] theorem snoc_Walker (l : List Walker) (a0 : Int) (a1 : (List Rule)) (a2 : (List Rule)) : dl (wab Walker.pd l) ++ [PV.d (PD.agg [(.int .i64 a0), (.imm 2 (wab Rule.pd a1)), (.imm 2 (wab Rule.pd a2))])] = dl (wab Walker.pd (l ++ [(⟨a0, a1, a2⟩ : Walker)])) := wdk Walker.pd l (⟨a0, a1, a2⟩ : Walker)
@[go_sem] theorem set_Walker (l : List Walker) (i : Nat) (a0 : Int) (a1 : (List Rule)) (a2 : (List Rule)) : (wab Walker.pd l).set i (PD.agg [(.int .i64 a0), (.imm 2 (wab Rule.pd a1)), (.imm 2 (wab Rule.pd a2))]) = wab Walker.pd (l.set i (⟨a0, a1, a2⟩ : Walker)) := wdQ Walker.pd l i (⟨a0, a1, a2⟩ : Walker)
@[go_sem] theorem rep_Walker (n : Nat) (a0 : Int) (a1 : (List Rule)) (a2 : (List Rule)) : List.replicate n (PD.agg [(.int .i64 a0), (.imm 2 (wab Rule.pd a1)), (.imm 2 (wab Rule.pd a2))]) = wab Walker.pd (List.replicate n (⟨a0, a1, a2⟩ : Walker)) := wd7 Walker.pd n (⟨a0, a1, a2⟩ : Walker)
structure Node where
 Mark : Int
 Cuts : (List Int)
 To : (List Int)
deriving DecidableEq
instance : Inhabited Node := ⟨⟨0, [], []⟩⟩
def Node.pd (x : Node) : PD := .agg [(.int .i64 x.Mark), (.imm 1 (wab (PD.int .i64) x.Cuts)), (.imm 1 (wab (PD.int .i64) x.To))]
attribute [go_sem] Node.pd
@[go_sem] theorem snoc_Node (l : List Node) (a0 : Int) (a1 : (List Int)) (a2 : (List Int)) : dl (wab Node.pd l) ++ [PV.d (PD.agg [(.int .i64 a0), (.imm 1 (wab (PD.int .i64) a1)), (.imm 1 (wab (PD.int .i64) a2))])] = dl (wab Node.pd (l ++ [(⟨a0, a1, a2⟩ : Node)])) := wdk Node.pd l (⟨a0, a1, a2⟩ : Node)
@[go_sem] theorem set_Node (l : List Node) (i : Nat) (a0 : Int) (a1 : (List Int)) (a2 : (List Int)) : (wab Node.pd l).set i (PD.agg [(.int .i64 a0), (.imm 1 (wab (PD.int .i64) a1)), (.imm 1 (wab (PD.int .i64) a2))]) = wab Node.pd (l.set i (⟨a0, a1, a2⟩ : Node)) := wdQ Node.pd l i (⟨a0, a1, a2⟩ : Node)
@[go_sem] theorem rep_Node (n : Nat) (a0 : Int) (a1 : (List Int)) (a2 : (List Int)) : List.replicate n (PD.agg [(.int .i64 a0), (.imm 1 (wab (PD.int .i64) a1)), (.imm 1 (wab (PD.int .i64) a2))]) = wab Node.pd (List.replicate n (⟨a0, a1, a2⟩ : Node)) := wd7 Node.pd n (⟨a0, a1, a2⟩ : Node)
structure Builder where
 k : Int
 rules : (List Rule)
 known : (List (Arr3_Int × Int))
 same : (List (ByteArray × Int))
 nodes : (List Node)
deriving DecidableEq
instance : Inhabited Builder := ⟨⟨0, [], [], [], []⟩⟩
structure Table where
 heads : (List Int)
 next : (List Int)
 keys : (List Arr3_Int)
deriving DecidableEq
instance : Inhabited Table := ⟨⟨[], [], []⟩⟩
def Table.pd (x : Table) : PD := .agg [(.imm 1 (wab (PD.int .i64) x.heads)), (.imm 1 (wab (PD.int .i64) x.next)), (.imm 3 (wab Arr3_Int.pd x.keys))]
attribute [go_sem] Table.pd
@[go_sem] theorem snoc_Table (l : List Table) (a0 : (List Int)) (a1 : (List Int)) (a2 : (List Arr3_Int)) : dl (wab Table.pd l) ++ [PV.d (PD.agg [(.imm 1 (wab (PD.int .i64) a0)), (.imm 1 (wab (PD.int .i64) a1)), (.imm 3 (wab Arr3_Int.pd a2))])] = dl (wab Table.pd (l ++ [(⟨a0, a1, a2⟩ : Table)])) := wdk Table.pd l (⟨a0, a1, a2⟩ : Table)
@[go_sem] theorem set_Table (l : List Table) (i : Nat) (a0 : (List Int)) (a1 : (List Int)) (a2 : (List Arr3_Int)) : (wab Table.pd l).set i (PD.agg [(.imm 1 (wab (PD.int .i64) a0)), (.imm 1 (wab (PD.int .i64) a1)), (.imm 3 (wab Arr3_Int.pd a2))]) = wab Table.pd (l.set i (⟨a0, a1, a2⟩ : Table)) := wdQ Table.pd l i (⟨a0, a1, a2⟩ : Table)
@[go_sem] theorem rep_Table (n : Nat) (a0 : (List Int)) (a1 : (List Int)) (a2 : (List Arr3_Int)) : List.replicate n (PD.agg [(.imm 1 (wab (PD.int .i64) a0)), (.imm 1 (wab (PD.int .i64) a1)), (.imm 3 (wab Arr3_Int.pd a2))]) = wab Table.pd (List.replicate n (⟨a0, a1, a2⟩ : Table)) := wd7 Table.pd n (⟨a0, a1, a2⟩ : Table)
structure Search where
 k : Int
 t : (List Rule)
 seen : Table
 many : (List (List Int))
 at_ : (List Int)
 nodes : (List Node)
deriving DecidableEq
instance : Inhabited Search := ⟨⟨0, [], ⟨[], [], []⟩, [], [], []⟩⟩
def Search.pd (x : Search) : PD := .agg [(.int .i64 x.k), (.imm 2 (wab Rule.pd x.t)), (.imm 1 (wab (PD.int .i64) x.seen.heads)), (.imm 1 (wab (PD.int .i64) x.seen.next)), (.imm 3 (wab Arr3_Int.pd x.seen.keys)), (.imm 1 (wab (wda 1 (PD.int .i64)) x.many)), (.imm 1 (wab (PD.int .i64) x.at_)), (.imm 3 (wab Node.pd x.nodes))]
attribute [go_sem] Search.pd
@[go_sem] theorem snoc_Search (l : List Search) (a0 : Int) (a1 : (List Rule)) (a2 : (List Int)) (a3 : (List Int)) (a4 : (List Arr3_Int)) (a5 : (List (List Int))) (a6 : (List Int)) (a7 : (List Node)) : dl (wab Search.pd l) ++ [PV.d (PD.agg [(.int .i64 a0), (.imm 2 (wab Rule.pd a1)), (.imm 1 (wab (PD.int .i64) a2)), (.imm 1 (wab (PD.int .i64) a3)), (.imm 3 (wab Arr3_Int.pd a4)), (.imm 1 (wab (wda 1 (PD.int .i64)) a5)), (.imm 1 (wab (PD.int .i64) a6)), (.imm 3 (wab Node.pd a7))])] = dl (wab Search.pd (l ++ [(⟨a0, a1, (⟨a2, a3, a4⟩ : Table), a5, a6, a7⟩ : Search)])) := wdk Search.pd l (⟨a0, a1, (⟨a2, a3, a4⟩ : Table), a5, a6, a7⟩ : Search)
@[go_sem] theorem set_Search (l : List Search) (i : Nat) (a0 : Int) (a1 : (List Rule)) (a2 : (List Int)) (a3 : (List Int)) (a4 : (List Arr3_Int)) (a5 : (List (List Int))) (a6 : (List Int)) (a7 : (List Node)) : (wab Search.pd l).set i (PD.agg [(.int .i64 a0), (.imm 2 (wab Rule.pd a1)), (.imm 1 (wab (PD.int .i64) a2)), (.imm 1 (wab (PD.int .i64) a3)), (.imm 3 (wab Arr3_Int.pd a4)), (.imm 1 (wab (wda 1 (PD.int .i64)) a5)), (.imm 1 (wab (PD.int .i64) a6)), (.imm 3 (wab Node.pd a7))]) = wab Search.pd (l.set i (⟨a0, a1, (⟨a2, a3, a4⟩ : Table), a5, a6, a7⟩ : Search)) := wdQ Search.pd l i (⟨a0, a1, (⟨a2, a3, a4⟩ : Table), a5, a6, a7⟩ : Search)
@[go_sem] theorem rep_Search (n : Nat) (a0 : Int) (a1 : (List Rule)) (a2 : (List Int)) (a3 : (List Int)) (a4 : (List Arr3_Int)) (a5 : (List (List Int))) (a6 : (List Int)) (a7 : (List Node)) : List.replicate n (PD.agg [(.int .i64 a0), (.imm 2 (wab Rule.pd a1)), (.imm 1 (wab (PD.int .i64) a2)), (.imm 1 (wab (PD.int .i64) a3)), (.imm 3 (wab Arr3_Int.pd a4)), (.imm 1 (wab (wda 1 (PD.int .i64)) a5)), (.imm 1 (wab (PD.int .i64) a6)), (.imm 3 (wab Node.pd a7))]) = wab Search.pd (List.replicate n (⟨a0, a1, (⟨a2, a3, a4⟩ : Table), a5, a6, a7⟩ : Search)) := wd7 Search.pd n (⟨a0, a1, (⟨a2, a3, a4⟩ : Table), a5, a6, a7⟩ : Search)
structure Compare where
 k : Int
 s : (List Rule)
 t : (List Rule)
 alike : Table
deriving DecidableEq
instance : Inhabited Compare := ⟨⟨0, [], [], ⟨[], [], []⟩⟩⟩
def Compare.pd (x : Compare) : PD := .agg [(.int .i64 x.k), (.imm 2 (wab Rule.pd x.s)), (.imm 2 (wab Rule.pd x.t)), (.imm 1 (wab (PD.int .i64) x.alike.heads)), (.imm 1 (wab (PD.int .i64) x.alike.next)), (.imm 3 (wab Arr3_Int.pd x.alike.keys))]
attribute [go_sem] Compare.pd
@[go_sem] theorem snoc_Compare (l : List Compare) (a0 : Int) (a1 : (List Rule)) (a2 : (List Rule)) (a3 : (List Int)) (a4 : (List Int)) (a5 : (List Arr3_Int)) : dl (wab Compare.pd l) ++ [PV.d (PD.agg [(.int .i64 a0), (.imm 2 (wab Rule.pd a1)), (.imm 2 (wab Rule.pd a2)), (.imm 1 (wab (PD.int .i64) a3)), (.imm 1 (wab (PD.int .i64) a4)), (.imm 3 (wab Arr3_Int.pd a5))])] = dl (wab Compare.pd (l ++ [(⟨a0, a1, a2, (⟨a3, a4, a5⟩ : Table)⟩ : Compare)])) := wdk Compare.pd l (⟨a0, a1, a2, (⟨a3, a4, a5⟩ : Table)⟩ : Compare)
@[go_sem] theorem set_Compare (l : List Compare) (i : Nat) (a0 : Int) (a1 : (List Rule)) (a2 : (List Rule)) (a3 : (List Int)) (a4 : (List Int)) (a5 : (List Arr3_Int)) : (wab Compare.pd l).set i (PD.agg [(.int .i64 a0), (.imm 2 (wab Rule.pd a1)), (.imm 2 (wab Rule.pd a2)), (.imm 1 (wab (PD.int .i64) a3)), (.imm 1 (wab (PD.int .i64) a4)), (.imm 3 (wab Arr3_Int.pd a5))]) = wab Compare.pd (l.set i (⟨a0, a1, a2, (⟨a3, a4, a5⟩ : Table)⟩ : Compare)) := wdQ Compare.pd l i (⟨a0, a1, a2, (⟨a3, a4, a5⟩ : Table)⟩ : Compare)
@[go_sem] theorem rep_Compare (n : Nat) (a0 : Int) (a1 : (List Rule)) (a2 : (List Rule)) (a3 : (List Int)) (a4 : (List Int)) (a5 : (List Arr3_Int)) : List.replicate n (PD.agg [(.int .i64 a0), (.imm 2 (wab Rule.pd a1)), (.imm 2 (wab Rule.pd a2)), (.imm 1 (wab (PD.int .i64) a3)), (.imm 1 (wab (PD.int .i64) a4)), (.imm 3 (wab Arr3_Int.pd a5))]) = wab Compare.pd (List.replicate n (⟨a0, a1, a2, (⟨a3, a4, a5⟩ : Table)⟩ : Compare)) := wd7 Compare.pd n (⟨a0, a1, a2, (⟨a3, a4, a5⟩ : Table)⟩ : Compare)
def Node.npv (r : Nat) (x : Node) : PV := .agg [.d (.int .i64 x.Mark), .d (.imm 1 (wab (PD.int .i64) x.Cuts)), .slc r 0 x.To.length]
def Node.sub (x : Node) : Row := ⟨3, 1, dl (wab (PD.int .i64) x.To)⟩
attribute [go_sem] Node.npv
instance : NestF Node.npv where
 ren ρ r x := by simp [Node.npv, PV.ren, renL]
 rows r x s h := by simpa [Node.npv, rowsOf, rowsOfL] using h
 refs H r x h := by simp [Node.npv, refsIn, refsInL, h]
 kill q r x h := by simp [Node.npv, PV.kill, killL, h]
 clean r x := by simp [Node.npv, clean, cleanL]
 byte r x := rfl
instance : NestG Node.sub := ⟨fun x => ⟨Nat.le_of_ble_eq_true rfl, _, rfl⟩⟩
instance : NestP Node.npv Node.sub Node.pd := ⟨fun H r x h => by
 simp only [Node.npv, Node.pd, frz, frzL, h, Node.sub, dl_allD, lenc_take, List.drop_zero, List.take_length, Option.map_some]⟩
def wdX {α : Type} (l : List α) : Option (List α) := if l.length ≤ 4294967296 then some l else none
def wmF (o : StringsBuilder) (s : ByteArray) : Option StringsBuilder := wah (o.buf.length + s.size ≤ 4294967296) (some ⟨true, o.buf ++ wbY s⟩)
def whJ (o : StringsBuilder) (c : Int) : Option StringsBuilder := wah (o.buf.length + 1 ≤ 4294967296) (some ⟨true, o.buf ++ [c]⟩)
def wgZ (o : StringsBuilder) : Option ByteArray := wah (wo2 o.buf = true ∧ o.buf ≠ []) (some (ofI o.buf))
def wmG (n : Int) : Option ByteArray := wah (-9223372036854775808 ≤ n ∧ n ≤ 9223372036854775807) (some ⟨(Lib.itoa n).toArray⟩)
def wmH (l : List Rule) (i j : Int) : Bool := decide (0 ≤ i ∧ i ≤ j ∧ j ≤ l.length ∧ l.length ≤ 4294967296)
def wh4 (l : List Rule) (i j : Int) : Nat := l.length - (j - i).toNat
def wf3 (l : List Rule) (i j : Int) : List Rule := l.take i.toNat ++ l.drop j.toNat ++ List.replicate (j - i).toNat (⟨[], 0⟩ : Rule)
noncomputable def wcb (k1 : Int) (e1 : Rule) : Int → Option (Int ⊕ (Unit ⊕ Int)) := fun m1 =>
 cond (decide (m1 < k1))
  (
  (idx e1.Bands m1).bind fun e2 =>
  cond (decide (e2.Lo < 0))
   (
   some (.inr (.inr 2))
   )
   (
   cond (decide (e2.Hi ≤ e2.Lo))
    (
    some (.inr (.inr 2))
    )
    (
    cond (decide (1000 < e2.Hi))
     (
     some (.inr (.inr 2))
     )
     (
     some (.inl (IntKind.i64.wrap (m1 + 1)))
     )
    )
   )
  )
  (
  some (.inr (.inl ()))
  )
noncomputable def wcc (k1 : Int) (t1 : (List Rule)) : Int → Option (Int ⊕ (Unit ⊕ Int)) := fun i1 =>
 cond (decide (i1 < (t1.length : Int)))
  (
  (
  (
   (idx t1 i1).bind fun e1 =>
   cond (((decide (¬(e1.Bands.length : Int) = k1)) || (decide (e1.Code < 0))) || (decide (99 < e1.Code)))
    (
    some (.inr 2)
    )
    (
    (
    (iter (wcb k1 e1) 0).bind fun x_33 => match x_33 with
      | (.inl y1) => some (.inl y1)
      | (.inr y2) => some (.inr y2)
    )
    )
   : Option (Unit ⊕ Int)).bind fun o_17 => match o_17 with
    | (.inl _) =>
      some (.inl (IntKind.i64.wrap (i1 + 1)))
    | (.inr y3) => some (.inr (.inr y3))
  )
  )
  (
  some (.inr (.inl ()))
  )
noncomputable def wbR (k1 : Int) (t1 : (List Rule)) : Option Int :=
 cond ((decide (k1 < 1)) || (decide (4 < k1)))
  (
  some 2
  )
  (
  cond (decide (24 < (t1.length : Int)))
   (
   some 3
   )
   (
   (
   (
    (
    (iter (wcc k1 t1) 0).bind fun x_13 => match x_13 with
      | (.inl y4) => some (.inl y4)
      | (.inr y5) => some (.inr y5)
    )
    : Option (Unit ⊕ Int)).bind fun o_7 => match o_7 with
     | (.inl _) =>
       some 0
     | (.inr y6) => some y6
   )
   )
  )
noncomputable def wb4 (t1 : (List Rule)) : Option Int :=
 wah (0 ≤ (t1.length : Int)) <|
 some (IntKind.i64.wrap ((IntKind.i64.wrap (1 * (2 ^ (min ((t1.length : Int)).toNat 64)))) - 1))
noncomputable def wa4 (l1 : (List Int)) (n1 : Int) : (Bool × Int × (List Int)) → Option ((Bool × Int × (List Int)) ⊕ (Bool × (List Int))) := fun (done2, i1, L2) =>
 cond (decide (i1 < (l1.length : Int)))
  (
  (
   ((cond (!done2)
    (
     (idx l1 i1).bind fun e1 =>
     some (decide (n1 ≤ e1))
    )
    (some false)
   ) : Option Bool).bind fun b1 =>
   cond b1
    (
    (idx l1 i1).bind fun e2 =>
    cond (decide (n1 < e2))
     (
     wah (L2.length + [n1].length ≤ 4294967296) <|
     some (true, (L2 ++ [n1]))
     )
     (
     some (true, L2)
     )
    )
    (
    some (done2, L2)
    )
   : Option (Bool × (List Int))).bind fun (done3, L3) =>
  (idx l1 i1).bind fun e3 =>
  wah (L3.length + [e3].length ≤ 4294967296) <|
  some (.inl (done3, (IntKind.i64.wrap (i1 + 1)), (L3 ++ [e3])))
  )
  (
  some (.inr (done2, L2))
  )
noncomputable def wcy (l1 : (List Int)) (n1 : Int) : Option (List Int) :=
 (
  (iter (wa4 l1 n1) (false, 0, [])).bind fun x_7 =>
  some x_7
  : Option (Bool × (List Int))).bind fun (done1, L1) =>
 (
  cond (!done1)
   (
   wah (L1.length + [n1].length ≤ 4294967296) <|
   some (L1 ++ [n1])
   )
   (
   some L1
   )
  : Option (List Int)).bind fun L4 =>
 some L4
noncomputable def wcd (t1 : (List Rule)) (mark1 : Int) (set1 : Int) : ((List Int) × Int) → Option (((List Int) × Int) ⊕ (List Int)) := fun (out2, i1) =>
 cond (decide (i1 < (t1.length : Int)))
  (
  (
   wah (0 ≤ i1) <|
   cond (decide (((set1.fdiv (2 ^ (min (i1).toNat 64))).tmod 2) = 1))
    (
    (
     (idx t1 i1).bind fun e1 =>
     (idx e1.Bands mark1).bind fun e2 =>
     cond (decide (0 < e2.Lo))
      (
      (idx t1 i1).bind fun e3 =>
      (idx e3.Bands mark1).bind fun e4 =>
      (wcy out2 e4.Lo).bind fun r1 =>
      some r1
      )
      (
      some out2
      )
     : Option (List Int)).bind fun out4 =>
    (idx t1 i1).bind fun e5 =>
    (idx e5.Bands mark1).bind fun e6 =>
    (wcy out4 e6.Hi).bind fun r2 =>
    some r2
    )
    (
    some out2
    )
   : Option (List Int)).bind fun out3 =>
  some (.inl (out3, (IntKind.i64.wrap (i1 + 1))))
  )
  (
  some (.inr out2)
  )
noncomputable def wbj (t1 : (List Rule)) (mark1 : Int) (set1 : Int) : Option (List Int) :=
 (
  (iter (wcd t1 mark1 set1) ([1000], 0)).bind fun x_7 =>
  some x_7
  : Option (List Int)).bind fun out1 =>
 some out1
noncomputable def wbT (k1 : Int) (t1 : (List Rule)) (most1 : Int) : (Int × Int) → Option ((Int × Int) ⊕ Int) := fun (out2, m1) =>
 cond ((decide (m1 < k1)) && (decide (out2 < most1)))
  (
  (wb4 t1).bind fun r2 =>
  (wbj t1 m1 r2).bind fun r3 =>
  some (.inl ((IntKind.i64.wrap (out2 * (r3.length : Int))), (IntKind.i64.wrap (m1 + 1))))
  )
  (
  some (.inr out2)
  )
noncomputable def wdb (k1 : Int) (t1 : (List Rule)) (most1 : Int) : Option Int :=
 (wbR k1 t1).bind fun r1 =>
 cond (decide (¬r1 = 0))
  (
  some 0
  )
  (
  (
   (iter (wbT k1 t1 most1) (1, 0)).bind fun x_10 =>
   some x_10
   : Option Int).bind fun out1 =>
  some out1
  )
noncomputable def waG (t1 : (List Rule)) : Int → Option (Int ⊕ (Unit ⊕ Bool)) := fun i1 =>
 cond (decide (i1 < (t1.length : Int)))
  (
  ((cond (decide (40 ≤ i1))
   (some true)
   (
    (idx t1 i1).bind fun e1 =>
    some (decide (20 < (e1.Bands.length : Int)))
   )
  ) : Option Bool).bind fun b1 =>
  cond b1
   (
   some (.inr (.inr false))
   )
   (
   some (.inl (IntKind.i64.wrap (i1 + 1)))
   )
  )
  (
  some (.inr (.inl ()))
  )
noncomputable def wcz (k1 : Int) (t1 : (List Rule)) : Option Bool :=
 (
 (
  (
  (iter (waG t1) 0).bind fun x_7 => match x_7 with
    | (.inl y1) => some (.inl y1)
    | (.inr y2) => some (.inr y2)
  )
  : Option (Unit ⊕ Bool)).bind fun o_1 => match o_1 with
   | (.inl _) =>
     (wdb k1 t1 30000).bind fun r1 =>
     some (decide (r1 < 30000))
   | (.inr y3) => some y3
 )
noncomputable def wb6 : Option (List Rule) :=
 some [(⟨[(⟨0, 10⟩ : Band)], 1⟩ : Rule), (⟨[(⟨5, 20⟩ : Band)], 2⟩ : Rule), (⟨[(⟨0, 20⟩ : Band)], 3⟩ : Rule)]
noncomputable def wd5 (k1 : Int) : Option Bool :=
 some ((decide (1 ≤ k1)) && (decide (k1 ≤ 4)))
noncomputable def wdL (b1 : Band) : Option Bool :=
 some (((decide (b1.Lo < 0)) || (decide (b1.Hi ≤ b1.Lo))) || (decide (1000 < b1.Hi)))
noncomputable def wbv (s1 : (List Band)) : Int → Option (Int ⊕ (Unit ⊕ Int)) := fun v1 =>
 cond (decide (v1 < (s1.length : Int)))
  (
  (idx s1 v1).bind fun e1 =>
  (wdL e1).bind fun r1 =>
  cond r1
   (
   some (.inr (.inr v1))
   )
   (
   some (.inl (IntKind.i64.wrap (v1 + 1)))
   )
  )
  (
  some (.inr (.inl ()))
  )
noncomputable def wa6 (s1 : (List Band)) : Option Int :=
 (
 (
  (
  (iter (wbv s1) 0).bind fun x_7 => match x_7 with
    | (.inl y1) => some (.inl y1)
    | (.inr y2) => some (.inr y2)
  )
  : Option (Unit ⊕ Int)).bind fun o_1 => match o_1 with
   | (.inl _) =>
     some (-1)
   | (.inr y3) => some y3
 )
noncomputable def waR (s1 : (List Band)) : Option Bool :=
 (wa6 s1).bind fun r1 =>
 some (decide (0 ≤ r1))
noncomputable def wdR (k1 : Int) (r1 : Rule) : Option Bool :=
 ((cond (((decide ((r1.Bands.length : Int) = k1)) && (decide (0 ≤ r1.Code))) && (decide (r1.Code ≤ 99)))
  (
   (waR r1.Bands).bind fun r2 =>
   some (!r2)
  )
  (some false)
 ) : Option Bool).bind fun b1 =>
 some b1
noncomputable def wbW (r1 : Rule) (k1 : Int) : Option Bool :=
 (wdR k1 r1).bind fun r2 =>
 some (!r2)
noncomputable def wbK (s1 : (List Rule)) (f1 : Int) : Int → Option (Int ⊕ (Unit ⊕ Int)) := fun v1 =>
 cond (decide (v1 < (s1.length : Int)))
  (
  (idx s1 v1).bind fun e1 =>
  (wbW e1 f1).bind fun r1 =>
  cond r1
   (
   some (.inr (.inr v1))
   )
   (
   some (.inl (IntKind.i64.wrap (v1 + 1)))
   )
  )
  (
  some (.inr (.inl ()))
  )
noncomputable def wbi (s1 : (List Rule)) (f1 : Int) : Option Int :=
 (
 (
  (
  (iter (wbK s1 f1) 0).bind fun x_7 => match x_7 with
    | (.inl y1) => some (.inl y1)
    | (.inr y2) => some (.inr y2)
  )
  : Option (Unit ⊕ Int)).bind fun o_1 => match o_1 with
   | (.inl _) =>
     some (-1)
   | (.inr y3) => some y3
 )
noncomputable def waO (s1 : (List Rule)) (f1 : Int) : Option Bool :=
 (wbi s1 f1).bind fun r1 =>
 some (decide (0 ≤ r1))
noncomputable def wbC (k1 : Int) (ts1 : (List (List Rule))) : Int → Option (Int ⊕ (Unit ⊕ Int)) := fun v1 =>
 cond (decide (v1 < (ts1.length : Int)))
  (
  (idx ts1 v1).bind fun e1 =>
  cond (decide (24 < (e1.length : Int)))
   (
   some (.inr (.inr 3))
   )
   (
   (waO e1 k1).bind fun r2 =>
   cond r2
    (
    some (.inr (.inr 2))
    )
    (
    some (.inl (IntKind.i64.wrap (v1 + 1)))
    )
   )
  )
  (
  some (.inr (.inl ()))
  )
noncomputable def wbm (k1 : Int) (ts1 : (List (List Rule))) : Option Int :=
 (wd5 k1).bind fun r1 =>
 cond (!r1)
  (
  some 2
  )
  (
  (
  (
   (
   (iter (wbC k1 ts1) 0).bind fun x_10 => match x_10 with
     | (.inl y1) => some (.inl y1)
     | (.inr y2) => some (.inr y2)
   )
   : Option (Unit ⊕ Int)).bind fun o_4 => match o_4 with
    | (.inl _) =>
      some 0
    | (.inr y3) => some y3
  )
  )
noncomputable def wbZ (t1 : (List Rule)) : Option Int :=
 wah (0 ≤ (t1.length : Int)) <|
 some (IntKind.u32.wrap ((IntKind.u32.wrap (1 * (2 ^ (min ((t1.length : Int)).toNat 32)))) - 1))
noncomputable def wcO (mark1 : Int) (e1 : (List Rule)) : (Int × (List Int)) → Option ((Int × (List Int)) ⊕ (List Int)) := fun (v2, L4) =>
 cond (decide (v2 < (e1.length : Int)))
  (
  (idx e1 v2).bind fun e2 =>
  (idx e2.Bands mark1).bind fun e3 =>
  wah (L4.length + [e3.Lo, e3.Hi].length ≤ 4294967296) <|
  some (.inl ((IntKind.i64.wrap (v2 + 1)), (L4 ++ [e3.Lo, e3.Hi])))
  )
  (
  some (.inr L4)
  )
noncomputable def wcP (mark1 : Int) (ts1 : (List (List Rule))) : (Int × (List Int)) → Option ((Int × (List Int)) ⊕ (List Int)) := fun (v1, L2) =>
 cond (decide (v1 < (ts1.length : Int)))
  (
  (
   (idx ts1 v1).bind fun e1 =>
   (iter (wcO mark1 e1) (0, L2)).bind fun x_21 =>
   some x_21
   : Option (List Int)).bind fun L3 =>
  some (.inl ((IntKind.i64.wrap (v1 + 1)), L3))
  )
  (
  some (.inr L2)
  )
noncomputable def wbG (mark1 : Int) (ts1 : (List (List Rule))) : Option (List Int) :=
 (
  (iter (wcP mark1 ts1) (0, [1000])).bind fun x_7 =>
  some x_7
  : Option (List Int)).bind fun L1 =>
 wah (L1.length ≤ 4294967296) <|
 wah ((sortI L1).length ≤ 4294967296) <|
 (
  (idx (List.take ((compactI (sortI L1)).length) (waH (sortI L1))) 0).bind fun e4 =>
  cond (decide (e4 = 0))
   (
   wah (0 ≤ 1 ∧ 1 ≤ ((List.take ((compactI (sortI L1)).length) (waH (sortI L1))).length : Int) ∧ ((List.take ((compactI (sortI L1)).length) (waH (sortI L1))).length : Int) ≤ ((List.take ((compactI (sortI L1)).length) (waH (sortI L1))).length : Int)) <|
   some (((List.take ((compactI (sortI L1)).length) (waH (sortI L1))).drop 1).take ((((List.take ((compactI (sortI L1)).length) (waH (sortI L1))).length : Int) : Int) - 1).toNat)
   )
   (
   some (List.take ((compactI (sortI L1)).length) (waH (sortI L1)))
   )
  : Option (List Int)).bind fun out1 =>
 some out1
noncomputable def wcQ (t1 : (List Rule)) (mark1 : Int) (value1 : Int) : (Int × Int) → Option ((Int × Int) ⊕ Int) := fun (out2, v1) =>
 cond (decide (v1 < (t1.length : Int)))
  (
  (
   (idx t1 v1).bind fun e1 =>
   (idx e1.Bands mark1).bind fun e2 =>
   cond ((decide (e2.Lo ≤ value1)) && (decide (value1 < e2.Hi)))
    (
    wah (0 ≤ v1) <|
    some (IntKind.u32.wrap ↑(BitVec.ofInt IntKind.u32.bits out2 ||| BitVec.ofInt IntKind.u32.bits (IntKind.u32.wrap (1 * (2 ^ (min (v1).toNat 32))))).toNat)
    )
    (
    some out2
    )
   : Option Int).bind fun out3 =>
  some (.inl (out3, (IntKind.i64.wrap (v1 + 1))))
  )
  (
  some (.inr out2)
  )
noncomputable def wbH (t1 : (List Rule)) (mark1 : Int) (value1 : Int) : Option Int :=
 (
  (iter (wcQ t1 mark1 value1) (0, 0)).bind fun x_7 =>
  some x_7
  : Option Int).bind fun out1 =>
 some out1
noncomputable def wbn (s1 : Int) : Int → Option (Int ⊕ (Unit ⊕ Int)) := fun v1 =>
 cond (decide (v1 < 24))
  (
  wah (0 ≤ v1) <|
  cond (decide (¬(IntKind.u32.wrap ↑(BitVec.ofInt IntKind.u32.bits s1 &&& BitVec.ofInt IntKind.u32.bits (IntKind.u32.wrap (1 * (2 ^ (min (v1).toNat 32))))).toNat) = 0))
   (
   some (.inr (.inr v1))
   )
   (
   some (.inl (IntKind.i64.wrap (v1 + 1)))
   )
  )
  (
  some (.inr (.inl ()))
  )
noncomputable def waU (s1 : Int) : Option Int :=
 (
 (
  (
  (iter (wbn s1) 0).bind fun x_7 => match x_7 with
    | (.inl y1) => some (.inl y1)
    | (.inr y2) => some (.inr y2)
  )
  : Option (Unit ⊕ Int)).bind fun o_1 => match o_1 with
   | (.inl _) =>
     some (-1)
   | (.inr y3) => some y3
 )
noncomputable def wdD (from1 : Int) (e1 : Int) (r3 : ((List Int) × (List (Arr3_Int × (List Int))))) : (Int × (List Int)) → Option ((Int × (List Int)) ⊕ ((List (Arr3_Int × (List Int))) × (List Int))) := fun (v2, L5) =>
 cond (decide (v2 < (r3.1.length : Int)))
  (
  (idx r3.1 v2).bind fun e2 =>
  (idx L5 v2).bind fun e3 =>
  some (.inl ((IntKind.i64.wrap (v2 + 1)), (L5.set (v2).toNat (IntKind.i64.wrap (e3 + (IntKind.i64.wrap (e2 * (IntKind.i64.wrap (e1 - from1)))))))))
  )
  (
  some (.inr (r3.2, L5))
  )
noncomputable def wdE (mark1 : Int) (a1 : Int) (o1 : (List Rule)) (o2 : Int) (self : ((List Rule) → Int → (List (Arr3_Int × (List Int))) → Int → Int → Option ((List Int) × (List (Arr3_Int × (List Int)))))) (r1 : (List Int)) : (Int × Int × (List (Arr3_Int × (List Int))) × (List Int)) → Option ((Int × Int × (List (Arr3_Int × (List Int))) × (List Int)) ⊕ ((List (Arr3_Int × (List Int))) × (List Int))) := fun (from1, v1, M2, L2) =>
 cond (decide (v1 < (r1.length : Int)))
  (
  (
   (idx r1 v1).bind fun e1 =>
   (wbH o1 mark1 from1).bind fun r2 =>
   (
    cond (decide ((IntKind.i64.wrap (mark1 + 1)) < o2))
     (
     (self o1 o2 M2 (IntKind.i64.wrap (mark1 + 1)) (IntKind.u32.wrap ↑(BitVec.ofInt IntKind.u32.bits a1 &&& BitVec.ofInt IntKind.u32.bits r2).toNat)).bind fun r3 =>
     (iter (wdD from1 e1 r3) (0, L2)).bind fun x_30 =>
     some x_30
     )
     (
     (waU (IntKind.u32.wrap ↑(BitVec.ofInt IntKind.u32.bits a1 &&& BitVec.ofInt IntKind.u32.bits r2).toNat)).bind fun r4 =>
     cond (decide (r4 < 0))
      (
      (idx L2 (o1.length : Int)).bind fun e4 =>
      some (M2, (L2.set ((o1.length : Int)).toNat (IntKind.i64.wrap (e4 + (IntKind.i64.wrap (e1 - from1))))))
      )
      (
      (idx L2 r4).bind fun e5 =>
      some (M2, (L2.set (r4).toNat (IntKind.i64.wrap (e5 + (IntKind.i64.wrap (e1 - from1))))))
      )
     )
    : Option ((List (Arr3_Int × (List Int))) × (List Int))).bind fun (M4, L4) =>
   some (e1, M4, L4)
   : Option (Int × (List (Arr3_Int × (List Int))) × (List Int))).bind fun (from2, M3, L3) =>
  some (.inl (from2, (IntKind.i64.wrap (v1 + 1)), M3, L3))
  )
  (
  some (.inr (M2, L2))
  )
noncomputable def wcV (self : ((List Rule) → Int → (List (Arr3_Int × (List Int))) → Int → Int → Option ((List Int) × (List (Arr3_Int × (List Int)))))) (o1 : (List Rule)) (o2 : Int) (m1 : (List (Arr3_Int × (List Int)))) (mark1 : Int) (a1 : Int) : Option ((List Int) × (List (Arr3_Int × (List Int)))) :=
 cond ((waP (⟨mark1, (IntKind.i64.wrap a1), 0⟩ : Arr3_Int) m1).isSome)
  (
  some (((waP (⟨mark1, (IntKind.i64.wrap a1), 0⟩ : Arr3_Int) m1).getD []), m1)
  )
  (
  wah (0 ≤ (IntKind.i64.wrap ((o1.length : Int) + 1)) ∧ (IntKind.i64.wrap ((o1.length : Int) + 1)) ≤ 4294967296) <|
  (
   (wbG mark1 [o1]).bind fun r1 =>
   (iter (wdE mark1 a1 o1 o2 self r1) (0, 0, m1, (List.replicate ((IntKind.i64.wrap ((o1.length : Int) + 1))).toNat (0 : Int)))).bind fun x_11 =>
   some x_11
   : Option ((List (Arr3_Int × (List Int))) × (List Int))).bind fun (M1, L1) =>
  some (L1, (wdt (⟨mark1, (IntKind.i64.wrap a1), 0⟩ : Arr3_Int) L1 M1))
  )
noncomputable def wdo : Nat → (List Rule) → Int → (List (Arr3_Int × (List Int))) → Int → Int → Option ((List Int) × (List (Arr3_Int × (List Int))))
 | 0 => fun _ _ _ _ _ => none
 | n + 1 => wcV (wdo n)
noncomputable def wep (k1 : Int) (t1 : (List Rule)) : Option (List Int) :=
 (wbZ t1).bind fun r1 =>
 (wdo 100 t1 k1 [] 0 r1).bind fun r2 =>
 (wdX r2.1).bind fun r3 =>
 some r3
noncomputable def we4 (t1 : (List Rule)) (r2 : (List Int)) : (Int × (List Int)) → Option ((Int × (List Int)) ⊕ (List Int)) := fun (v1, L2) =>
 cond (decide (v1 < ((r2.take (((t1.length : Int) : Int) - 0).toNat).length : Int)))
  (
  (
   (idx (r2.take (((t1.length : Int) : Int) - 0).toNat) v1).bind fun e1 =>
   cond (decide (e1 = 0))
    (
    wah (L2.length + [v1].length ≤ 4294967296) <|
    some (L2 ++ [v1])
    )
    (
    some L2
    )
   : Option (List Int)).bind fun L3 =>
  some (.inl ((IntKind.i64.wrap (v1 + 1)), L3))
  )
  (
  some (.inr L2)
  )
noncomputable def wfe (k1 : Int) (t1 : (List Rule)) : Option ((List Int) × Int) :=
 (wbm k1 [t1]).bind fun r1 =>
 cond (decide (¬r1 = 0))
  (
  some ([], r1)
  )
  (
  (
   (wep k1 t1).bind fun r2 =>
   wah (0 ≤ 0 ∧ 0 ≤ (t1.length : Int) ∧ (t1.length : Int) ≤ (r2.length : Int)) <|
   (iter (we4 t1 r2) (0, [])).bind fun x_12 =>
   some x_12
   : Option (List Int)).bind fun L1 =>
  some (L1, 0)
  )
noncomputable def weG (i1 : Int) (v1 : Int) : Option Bool :=
 some (decide (i1 < 0))
noncomputable def wb2 (mark1 : Int) (a1 : Int) (b1 : Int) (o1 : Walker) (self : (Walker → (List (Arr3_Int × Bool)) → Int → Int → Int → Option ((List Int) × Bool × (List (Arr3_Int × Bool))))) (r4 : (List Int)) : (Int × Int × (List (Arr3_Int × Bool))) → Option ((Int × Int × (List (Arr3_Int × Bool))) ⊕ ((List (Arr3_Int × Bool)) ⊕ ((List Int) × Bool × (List (Arr3_Int × Bool))))) := fun (from1, v1, M2) =>
 cond (decide (v1 < (r4.length : Int)))
  (
  (idx r4 v1).bind fun e1 =>
  (wbH o1.s mark1 from1).bind fun r5 =>
  (wbH o1.t mark1 from1).bind fun r6 =>
  (self o1 M2 (IntKind.i64.wrap (mark1 + 1)) (IntKind.u32.wrap ↑(BitVec.ofInt IntKind.u32.bits a1 &&& BitVec.ofInt IntKind.u32.bits r5).toNat) (IntKind.u32.wrap ↑(BitVec.ofInt IntKind.u32.bits b1 &&& BitVec.ofInt IntKind.u32.bits r6).toNat)).bind fun r7 =>
  cond r7.2.1
   (
   wah (1 + r7.1.length ≤ 4294967296) <|
   some (.inr (.inr (([from1] ++ r7.1), true, r7.2.2)))
   )
   (
   some (.inl (e1, (IntKind.i64.wrap (v1 + 1)), r7.2.2))
   )
  )
  (
  some (.inr (.inl M2))
  )
noncomputable def wbw (self : (Walker → (List (Arr3_Int × Bool)) → Int → Int → Int → Option ((List Int) × Bool × (List (Arr3_Int × Bool))))) (o1 : Walker) (m1 : (List (Arr3_Int × Bool))) (mark1 : Int) (a1 : Int) (b1 : Int) : Option ((List Int) × Bool × (List (Arr3_Int × Bool))) :=
 cond (decide (mark1 = o1.k))
  (
  (waU a1).bind fun r1 =>
  (waU b1).bind fun r2 =>
  (weG r1 r2).bind fun r3 =>
  some ([], r3, m1)
  )
  (
  cond ((waP (⟨mark1, (IntKind.i64.wrap a1), (IntKind.i64.wrap b1)⟩ : Arr3_Int) m1).getD false)
   (
   some ([], false, m1)
   )
   (
   (
   (
    (wbG mark1 [o1.s, o1.t]).bind fun r4 =>
    (
    (iter (wb2 mark1 a1 b1 o1 self r4) (0, 0, m1)).bind fun x_15 => match x_15 with
      | (.inl y1) => some (.inl y1)
      | (.inr y2) => some (.inr y2)
    )
    : Option ((List (Arr3_Int × Bool)) ⊕ ((List Int) × Bool × (List (Arr3_Int × Bool))))).bind fun o_8 => match o_8 with
     | (.inl M1) =>
       some ([], false, (wdt (⟨mark1, (IntKind.i64.wrap a1), (IntKind.i64.wrap b1)⟩ : Arr3_Int) true M1))
     | (.inr y3) => some y3
   )
   )
  )
noncomputable def wbL : Nat → Walker → (List (Arr3_Int × Bool)) → Int → Int → Int → Option ((List Int) × Bool × (List (Arr3_Int × Bool)))
 | 0 => fun _ _ _ _ _ => none
 | n + 1 => wbw (wbL n)
noncomputable def wck (w1 : Walker) : Option ((List Int) × Bool) :=
 (wbZ w1.s).bind fun r1 =>
 (wbZ w1.t).bind fun r2 =>
 (wbL 100 w1 [] 0 r1 r2).bind fun r3 =>
 some (r3.1, r3.2.1)
noncomputable def wcW (l1 : (List Int)) (ok1 : Bool) : Option ((List Int) × Int) :=
 cond (!ok1)
  (
  some ([], 10)
  )
  (
  some (l1, 0)
  )
noncomputable def wfB (k1 : Int) (t1 : (List Rule)) : Option ((List Int) × Int) :=
 (wbm k1 [t1]).bind fun r1 =>
 cond (decide (¬r1 = 0))
  (
  some ([], r1)
  )
  (
  (wck (⟨k1, t1, []⟩ : Walker)).bind fun r2 =>
  (wcW r2.1 r2.2).bind fun r3 =>
  some (r3.1, r3.2)
  )
noncomputable def wcu (o1 : Builder) (a1 : Int) : Option (Int × Builder) :=
 (waU a1).bind fun r1 =>
 cond (decide (r1 < 0))
  (
  some ((-1), o1)
  )
  (
  (idx o1.rules r1).bind fun e1 =>
  some ((IntKind.i64.wrap ((-2) - e1.Code)), o1)
  )
noncomputable def weq (ends1 : (List Int)) (to1 : (List Int)) : (Int × (List Int) × (List Int)) → Option ((Int × (List Int) × (List Int)) ⊕ ((List Int) × (List Int))) := fun (v1, L3, L4) =>
 cond (decide (v1 < (to1.length : Int)))
  (
  (
   (idx to1 v1).bind fun e1 =>
   ((cond (decide (0 < (L4.length : Int)))
    (
     (idx L4 (IntKind.i64.wrap ((L4.length : Int) - 1))).bind fun e2 =>
     some (decide (e2 = e1))
    )
    (some false)
   ) : Option Bool).bind fun b1 =>
   cond b1
    (
    (idx ends1 v1).bind fun e3 =>
    (idx L3 (IntKind.i64.wrap ((L4.length : Int) - 1))).bind fun e4 =>
    some ((L3.set ((IntKind.i64.wrap ((L4.length : Int) - 1))).toNat e3), L4)
    )
    (
    (idx ends1 v1).bind fun e5 =>
    wah (L3.length + [e5].length ≤ 4294967296) <|
    wah (L4.length + [e1].length ≤ 4294967296) <|
    some ((L3 ++ [e5]), (L4 ++ [e1]))
    )
   : Option ((List Int) × (List Int))).bind fun (L5, L6) =>
  some (.inl ((IntKind.i64.wrap (v1 + 1)), L5, L6))
  )
  (
  some (.inr (L3, L4))
  )
noncomputable def wer (ends1 : (List Int)) (to1 : (List Int)) : Option ((List Int) × (List Int)) :=
 (
  (iter (weq ends1 to1) (0, [], [])).bind fun x_7 =>
  some x_7
  : Option ((List Int) × (List Int))).bind fun (L1, L2) =>
 some (L1, L2)
noncomputable def wcI (e1 : (List Int)) : (Int × Bool × (List Int)) → Option ((Int × Bool × (List Int)) ⊕ (Bool × (List Int))) := fun (v2, c5, L5) =>
 cond (decide (v2 < (e1.length : Int)))
  (
  (idx e1 v2).bind fun e2 =>
  (wmG e2).bind fun r1 =>
  wah (bsz r1 + bsz (⟨#[32]⟩ : ByteArray) ≤ 4294967296) <|
  (wmF (⟨c5, L5⟩ : StringsBuilder) (r1 ++ (⟨#[32]⟩ : ByteArray))).bind fun r2 =>
  some (.inl ((IntKind.i64.wrap (v2 + 1)), true, r2.buf))
  )
  (
  some (.inr (c5, L5))
  )
noncomputable def wcJ (x1 : Node) : (Int × Bool × (List Int)) → Option ((Int × Bool × (List Int)) ⊕ (Bool × (List Int))) := fun (v1, c2, L2) =>
 cond (decide (v1 < ([[x1.Mark], x1.Cuts, x1.To].length : Int)))
  (
  (
   (idx [[x1.Mark], x1.Cuts, x1.To] v1).bind fun e1 =>
   (
    (iter (wcI e1) (0, c2, L2)).bind fun x_23 =>
    some x_23
    : Option (Bool × (List Int))).bind fun (c4, L4) =>
   (whJ (⟨c4, L4⟩ : StringsBuilder) 124).bind fun r3 =>
   some (true, r3.buf)
   : Option (Bool × (List Int))).bind fun (c3, L3) =>
  some (.inl ((IntKind.i64.wrap (v1 + 1)), c3, L3))
  )
  (
  some (.inr (c2, L2))
  )
noncomputable def wcv (o1 : Builder) (x1 : Node) : Option (Int × Builder) :=
 (
  (iter (wcJ x1) (0, false, [])).bind fun x_7 =>
  some x_7
  : Option (Bool × (List Int))).bind fun (c1, L1) =>
 (wgZ (⟨c1, L1⟩ : StringsBuilder)).bind fun r4 =>
 (
  cond (!((waP r4 o1.same).isSome))
   (
   (wgZ (⟨c1, L1⟩ : StringsBuilder)).bind fun r5 =>
   wah (o1.nodes.length + [x1].length ≤ 4294967296) <|
   some ((o1.nodes.length : Int), (wdt r5 (o1.nodes.length : Int) o1.same), (o1.nodes ++ [x1]))
   )
   (
   some (((waP r4 o1.same).getD 0), o1.same, o1.nodes)
   )
  : Option (Int × (List (ByteArray × Int)) × (List Node))).bind fun (n1, M1, L6) =>
 some (n1, (⟨o1.k, o1.rules, o1.known, M1, L6⟩ : Builder))
noncomputable def wdc (mark1 : Int) (a1 : Int) (self : (Builder → Int → Int → Option (Int × Builder))) (r2 : (List Int)) : (Int × Int × Int × (List Rule) × (List (Arr3_Int × Int)) × (List (ByteArray × Int)) × (List Node) × (List Int)) → Option ((Int × Int × Int × (List Rule) × (List (Arr3_Int × Int)) × (List (ByteArray × Int)) × (List Node) × (List Int)) ⊕ (Int × (List Rule) × (List (Arr3_Int × Int)) × (List (ByteArray × Int)) × (List Node) × (List Int))) := fun (from1, v1, c3, c4, M3, M4, L3, L4) =>
 cond (decide (v1 < (r2.length : Int)))
  (
  (idx r2 v1).bind fun e1 =>
  (wbH c4 mark1 from1).bind fun r3 =>
  (self (⟨c3, c4, M3, M4, L3⟩ : Builder) (IntKind.i64.wrap (mark1 + 1)) (IntKind.u32.wrap ↑(BitVec.ofInt IntKind.u32.bits a1 &&& BitVec.ofInt IntKind.u32.bits r3).toNat)).bind fun r4 =>
  wah (L4.length + [r4.1].length ≤ 4294967296) <|
  some (.inl (e1, (IntKind.i64.wrap (v1 + 1)), r4.2.k, r4.2.rules, r4.2.known, r4.2.same, r4.2.nodes, (L4 ++ [r4.1])))
  )
  (
  some (.inr (c3, c4, M3, M4, L3, L4))
  )
noncomputable def wcw (self : (Builder → Int → Int → Option (Int × Builder))) (o1 : Builder) (mark1 : Int) (a1 : Int) : Option (Int × Builder) :=
 cond (decide (mark1 = o1.k))
  (
  (wcu o1 a1).bind fun r1 =>
  some (r1.1, r1.2)
  )
  (
  cond ((waP (⟨mark1, (IntKind.i64.wrap a1), 0⟩ : Arr3_Int) o1.known).isSome)
   (
   some (((waP (⟨mark1, (IntKind.i64.wrap a1), 0⟩ : Arr3_Int) o1.known).getD 0), o1)
   )
   (
   (wbG mark1 [o1.rules]).bind fun r2 =>
   (
    (iter (wdc mark1 a1 self r2) (0, 0, o1.k, o1.rules, o1.known, o1.same, o1.nodes, [])).bind fun x_13 =>
    some x_13
    : Option (Int × (List Rule) × (List (Arr3_Int × Int)) × (List (ByteArray × Int)) × (List Node) × (List Int))).bind fun (c1, c2, M1, M2, L1, L2) =>
   (wer r2 L2).bind fun r5 =>
   (idx r5.2 0).bind fun e2 =>
   (
    cond (decide (1 < (r5.2.length : Int)))
     (
     (wcv (⟨c1, c2, M1, M2, L1⟩ : Builder) (⟨mark1, r5.1, r5.2⟩ : Node)).bind fun r6 =>
     some (r6.1, r6.2.k, r6.2.rules, r6.2.known, r6.2.same, r6.2.nodes)
     )
     (
     some (e2, c1, c2, M1, M2, L1)
     )
    : Option (Int × Int × (List Rule) × (List (Arr3_Int × Int)) × (List (ByteArray × Int)) × (List Node))).bind fun (n1, c5, c6, M5, M6, L5) =>
   some (n1, (⟨c5, c6, (wdt (⟨mark1, (IntKind.i64.wrap a1), 0⟩ : Arr3_Int) n1 M5), M6, L5⟩ : Builder))
   )
  )
noncomputable def wcX : Nat → Builder → Int → Int → Option (Int × Builder)
 | 0 => fun _ _ _ => none
 | n + 1 => wcw (wcX n)
noncomputable def wb3 (l1 : (List Node)) (o1 : Builder) (self : ((List (Int × Int)) → (List Node) → Builder → Int → Option (Int × (List (Int × Int)) × (List Node)))) (e2 : Node) : (Int × (List (Int × Int)) × (List Node)) → Option ((Int × (List (Int × Int)) × (List Node)) ⊕ ((List (Int × Int)) × (List Node))) := fun (v1, M2, L2) =>
 cond (decide (v1 < (e2.To.length : Int)))
  (
  (idx e2.To v1).bind fun e3 =>
  (self M2 L2 o1 e3).bind fun r2 =>
  (idx r2.2.2 (l1.length : Int)).bind fun e4 =>
  wah (e4.To.length + [r2.1].length ≤ 4294967296) <|
  some (.inl ((IntKind.i64.wrap (v1 + 1)), r2.2.1, (r2.2.2.set (((l1.length : Int)).toNat) (⟨e4.Mark, e4.Cuts, (e4.To ++ [r2.1])⟩ : Node))))
  )
  (
  some (.inr (M2, L2))
  )
noncomputable def wbx (self : ((List (Int × Int)) → (List Node) → Builder → Int → Option (Int × (List (Int × Int)) × (List Node)))) (m1 : (List (Int × Int))) (l1 : (List Node)) (o1 : Builder) (n1 : Int) : Option (Int × (List (Int × Int)) × (List Node)) :=
 cond (decide (n1 < 0))
  (
  some (n1, m1, l1)
  )
  (
  cond ((waP n1 m1).isSome)
   (
   some (((waP n1 m1).getD 0), m1, l1)
   )
   (
   (idx o1.nodes n1).bind fun e1 =>
   (wdX e1.Cuts).bind fun r1 =>
   wah (l1.length + 1 ≤ 4294967296) <|
   (
    (idx o1.nodes n1).bind fun e2 =>
    (iter (wb3 l1 o1 self e2) (0, (wdt n1 (l1.length : Int) m1), (l1 ++ [(⟨e1.Mark, r1, []⟩ : Node)]))).bind fun x_21 =>
    some x_21
    : Option ((List (Int × Int)) × (List Node))).bind fun (M1, L1) =>
   some ((l1.length : Int), M1, L1)
   )
  )
noncomputable def wbM : Nat → (List (Int × Int)) → (List Node) → Builder → Int → Option (Int × (List (Int × Int)) × (List Node))
 | 0 => fun _ _ _ _ => none
 | n + 1 => wbx (wbM n)
noncomputable def wb0 (o1 : Builder) (top1 : Int) : Option ((List Node) × Builder) :=
 (wbM 100 [] [] o1 top1).bind fun r1 =>
 some (r1.2.2, o1)
noncomputable def wd9 (k1 : Int) (t1 : (List Rule)) : Option ((List Node) × Int) :=
 (wbm k1 [t1]).bind fun r1 =>
 cond (decide (¬r1 = 0))
  (
  some ([], r1)
  )
  (
  (wbZ t1).bind fun r2 =>
  (wcX 100 (⟨k1, t1, [], [], []⟩ : Builder) 0 r2).bind fun r3 =>
  cond (decide (r3.1 < 0))
   (
   some ([(⟨0, [1000], [r3.1]⟩ : Node)], 0)
   )
   (
   (wb0 r3.2 r3.1).bind fun r4 =>
   some (r4.1, 0)
   )
  )
noncomputable def wdM (a1 : (List Int)) (b1 : (List Int)) : Int → Option (Int ⊕ (Unit ⊕ Bool)) := fun i1 =>
 cond (decide (i1 < (a1.length : Int)))
  (
  (idx a1 i1).bind fun e1 =>
  (idx b1 i1).bind fun e2 =>
  cond (decide (¬e1 = e2))
   (
   some (.inr (.inr false))
   )
   (
   some (.inl (IntKind.i64.wrap (i1 + 1)))
   )
  )
  (
  some (.inr (.inl ()))
  )
noncomputable def wcl (a1 : (List Int)) (b1 : (List Int)) : Option Bool :=
 cond (decide (¬(a1.length : Int) = (b1.length : Int)))
  (
  some false
  )
  (
  (
  (
   (
   (iter (wdM a1 b1) 0).bind fun x_9 => match x_9 with
     | (.inl y1) => some (.inl y1)
     | (.inr y2) => some (.inr y2)
   )
   : Option (Unit ⊕ Bool)).bind fun o_3 => match o_3 with
    | (.inl _) =>
      some true
    | (.inr y3) => some y3
  )
  )
noncomputable def wbD : Option Bool :=
 (wb6).bind fun r1 =>
 (wfe 1 r1).bind fun r2 =>
 (wb6).bind fun r3 =>
 (wfB 1 r3).bind fun r4 =>
 (wb6).bind fun r5 =>
 (wd9 1 r5).bind fun r6 =>
 ((cond (decide (r2.2 = 0))
  (
   (wcl r2.1 [2]).bind fun r7 =>
   some r7
  )
  (some false)
 ) : Option Bool).bind fun b1 =>
 ((cond (b1 && (decide (r4.2 = 0)))
  (
   (wcl r4.1 [20]).bind fun r8 =>
   some r8
  )
  (some false)
 ) : Option Bool).bind fun b2 =>
 ((cond ((b2 && (decide (r6.2 = 0))) && (decide ((r6.1.length : Int) = 1)))
  (
   (idx r6.1 0).bind fun e1 =>
   (wcl e1.To [(-3), (-4), (-1)]).bind fun r9 =>
   some r9
  )
  (some false)
 ) : Option Bool).bind fun b3 =>
 some b3
noncomputable def wbU (t1 : (List Rule)) : (Int × (List Rule)) → Option ((Int × (List Rule)) ⊕ (List Rule)) := fun (i1, L2) =>
 cond (decide (i1 < (t1.length : Int)))
  (
  (idx t1 i1).bind fun e1 =>
  (idx t1 i1).bind fun e2 =>
  wah (0 + e2.Bands.length ≤ 4294967296) <|
  wah (L2.length + [(⟨e2.Bands, e1.Code⟩ : Rule)].length ≤ 4294967296) <|
  some (.inl ((IntKind.i64.wrap (i1 + 1)), (L2 ++ [(⟨e2.Bands, e1.Code⟩ : Rule)])))
  )
  (
  some (.inr L2)
  )
noncomputable def wcs (t1 : (List Rule)) : Option (List Rule) :=
 (
  (iter (wbU t1) (0, [])).bind fun x_7 =>
  some x_7
  : Option (List Rule)).bind fun L1 =>
 some L1
noncomputable def wcE (set1 : Int) : Int → Option (Int ⊕ Int) := fun i2 =>
 wah (0 ≤ i2) <|
 cond (decide (((set1.fdiv (2 ^ (min (i2).toNat 64))).tmod 2) = 0))
  (
  some (.inl (IntKind.i64.wrap (i2 + 1)))
  )
  (
  some (.inr i2)
  )
noncomputable def wdp (set1 : Int) : Option Int :=
 cond (decide (set1 = 0))
  (
  some (-1)
  )
  (
  (
   (iter (wcE set1) 0).bind fun x_9 =>
   some x_9
   : Option Int).bind fun i1 =>
  some i1
  )
noncomputable def wcY (k1 : Arr3_Int) : Option Int :=
 some ((IntKind.i64.wrap ((IntKind.i64.wrap ((IntKind.i64.wrap (k1.c0 * 7)) + (IntKind.i64.wrap ((k1.c1.tmod 1000003) * 31)))) + (IntKind.i64.wrap ((k1.c2.tmod 1000003) * 17)))).tmod 4096)
noncomputable def wcZ (t1 : (List Rule)) (mark1 : Int) (set1 : Int) (value1 : Int) : (Int × Int) → Option ((Int × Int) ⊕ Int) := fun (out2, i1) =>
 cond (decide (i1 < (t1.length : Int)))
  (
  (
   wah (0 ≤ i1) <|
   ((cond (decide (((set1.fdiv (2 ^ (min (i1).toNat 64))).tmod 2) = 1))
    (
     (idx t1 i1).bind fun e1 =>
     (idx e1.Bands mark1).bind fun e2 =>
     some (decide (e2.Lo ≤ value1))
    )
    (some false)
   ) : Option Bool).bind fun b1 =>
   ((cond b1
    (
     (idx t1 i1).bind fun e3 =>
     (idx e3.Bands mark1).bind fun e4 =>
     some (decide (value1 < e4.Hi))
    )
    (some false)
   ) : Option Bool).bind fun b2 =>
   cond b2
    (
    wah (0 ≤ i1) <|
    some (IntKind.i64.wrap ↑(BitVec.ofInt IntKind.i64.bits out2 ||| BitVec.ofInt IntKind.i64.bits (IntKind.i64.wrap (1 * (2 ^ (min (i1).toNat 64))))).toNat)
    )
    (
    some out2
    )
   : Option Int).bind fun out3 =>
  some (.inl (out3, (IntKind.i64.wrap (i1 + 1))))
  )
  (
  some (.inr out2)
  )
noncomputable def waV (t1 : (List Rule)) (mark1 : Int) (set1 : Int) (value1 : Int) : Option Int :=
 (
  (iter (wcZ t1 mark1 set1 value1) (0, 0)).bind fun x_7 =>
  some x_7
  : Option Int).bind fun out1 =>
 some out1
noncomputable def wcF (a1 : (List Rule)) (b1 : (List Rule)) (i1 : Int) : Int → Option (Int ⊕ (Unit ⊕ Bool)) := fun k2 =>
 (idx a1 i1).bind fun e8 =>
 cond (decide (k2 < (e8.Bands.length : Int)))
  (
  (idx a1 i1).bind fun e9 =>
  (idx e9.Bands k2).bind fun e10 =>
  (idx b1 i1).bind fun e11 =>
  (idx e11.Bands k2).bind fun e12 =>
  cond (!((e10.Lo == e12.Lo) && (e10.Hi == e12.Hi)))
   (
   some (.inr (.inr false))
   )
   (
   some (.inl (IntKind.i64.wrap (k2 + 1)))
   )
  )
  (
  some (.inr (.inl ()))
  )
noncomputable def wcG (a1 : (List Rule)) (b1 : (List Rule)) : Int → Option (Int ⊕ (Unit ⊕ Bool)) := fun i1 =>
 cond (decide (i1 < (a1.length : Int)))
  (
  (
  (
   (idx a1 i1).bind fun e1 =>
   (idx b1 i1).bind fun e2 =>
   cond (decide (¬e1.Code = e2.Code))
    (
    some (.inr false)
    )
    (
    cond (decide (¬(e1.Bands.length : Int) = (e2.Bands.length : Int)))
     (
     some (.inr false)
     )
     (
     (
     (iter (wcF a1 b1 i1) 0).bind fun x_61 => match x_61 with
       | (.inl y3) => some (.inl y3)
       | (.inr y4) => some (.inr y4)
     )
     )
    )
   : Option (Unit ⊕ Bool)).bind fun o_13 => match o_13 with
    | (.inl _) =>
      some (.inl (IntKind.i64.wrap (i1 + 1)))
    | (.inr y5) => some (.inr (.inr y5))
  )
  )
  (
  some (.inr (.inl ()))
  )
noncomputable def wbE (a1 : (List Rule)) (b1 : (List Rule)) : Option Bool :=
 cond (decide (¬(a1.length : Int) = (b1.length : Int)))
  (
  some false
  )
  (
  (
  (
   (
   (iter (wcG a1 b1) 0).bind fun x_9 => match x_9 with
     | (.inl y6) => some (.inl y6)
     | (.inr y7) => some (.inr y7)
   )
   : Option (Unit ⊕ Bool)).bind fun o_3 => match o_3 with
    | (.inl _) =>
      some true
    | (.inr y8) => some y8
  )
  )
noncomputable def wdj (t1 : (List Rule)) (i1 : Int) : Option Int :=
 cond (decide (i1 < 0))
  (
  some (-1)
  )
  (
  (idx t1 i1).bind fun e1 =>
  some e1.Code
  )
noncomputable def wdN (i1 : Int) (j1 : Int) (k1 : (List Rule)) (k2 : (List Rule)) : Option Bool :=
 (wdj k1 i1).bind fun r1 =>
 (wdj k2 j1).bind fun r2 =>
 some (decide (¬r1 = r2))
noncomputable def wa8 (mark1 : Int) (a1 : Int) (b1 : Int) (o1 : Walker) (o2 : (List Rule)) (o3 : (List Rule)) (self : (Walker → (List Rule) → (List Rule) → (List (Arr3_Int × Bool)) → Int → Int → Int → Option ((List Int) × Bool × (List (Arr3_Int × Bool))))) (r4 : (List Int)) : (Int × Int × (List (Arr3_Int × Bool))) → Option ((Int × Int × (List (Arr3_Int × Bool))) ⊕ ((List (Arr3_Int × Bool)) ⊕ ((List Int) × Bool × (List (Arr3_Int × Bool))))) := fun (from1, v1, M2) =>
 cond (decide (v1 < (r4.length : Int)))
  (
  (idx r4 v1).bind fun e1 =>
  (wbH o1.s mark1 from1).bind fun r5 =>
  (wbH o1.t mark1 from1).bind fun r6 =>
  (self o1 o2 o3 M2 (IntKind.i64.wrap (mark1 + 1)) (IntKind.u32.wrap ↑(BitVec.ofInt IntKind.u32.bits a1 &&& BitVec.ofInt IntKind.u32.bits r5).toNat) (IntKind.u32.wrap ↑(BitVec.ofInt IntKind.u32.bits b1 &&& BitVec.ofInt IntKind.u32.bits r6).toNat)).bind fun r7 =>
  cond r7.2.1
   (
   wah (1 + r7.1.length ≤ 4294967296) <|
   some (.inr (.inr (([from1] ++ r7.1), true, r7.2.2)))
   )
   (
   some (.inl (e1, (IntKind.i64.wrap (v1 + 1)), r7.2.2))
   )
  )
  (
  some (.inr (.inl M2))
  )
noncomputable def wbh (self : (Walker → (List Rule) → (List Rule) → (List (Arr3_Int × Bool)) → Int → Int → Int → Option ((List Int) × Bool × (List (Arr3_Int × Bool))))) (o1 : Walker) (o2 : (List Rule)) (o3 : (List Rule)) (m1 : (List (Arr3_Int × Bool))) (mark1 : Int) (a1 : Int) (b1 : Int) : Option ((List Int) × Bool × (List (Arr3_Int × Bool))) :=
 cond (decide (mark1 = o1.k))
  (
  (waU a1).bind fun r1 =>
  (waU b1).bind fun r2 =>
  (wdN r1 r2 o2 o3).bind fun r3 =>
  some ([], r3, m1)
  )
  (
  cond ((waP (⟨mark1, (IntKind.i64.wrap a1), (IntKind.i64.wrap b1)⟩ : Arr3_Int) m1).getD false)
   (
   some ([], false, m1)
   )
   (
   (
   (
    (wbG mark1 [o1.s, o1.t]).bind fun r4 =>
    (
    (iter (wa8 mark1 a1 b1 o1 o2 o3 self r4) (0, 0, m1)).bind fun x_15 => match x_15 with
      | (.inl y1) => some (.inl y1)
      | (.inr y2) => some (.inr y2)
    )
    : Option ((List (Arr3_Int × Bool)) ⊕ ((List Int) × Bool × (List (Arr3_Int × Bool))))).bind fun o_8 => match o_8 with
     | (.inl M1) =>
       some ([], false, (wdt (⟨mark1, (IntKind.i64.wrap a1), (IntKind.i64.wrap b1)⟩ : Arr3_Int) true M1))
     | (.inr y3) => some y3
   )
   )
  )
noncomputable def wat : Nat → Walker → (List Rule) → (List Rule) → (List (Arr3_Int × Bool)) → Int → Int → Int → Option ((List Int) × Bool × (List (Arr3_Int × Bool)))
 | 0 => fun _ _ _ _ _ _ _ => none
 | n + 1 => wbh (wat n)
noncomputable def wct (w1 : Walker) (wanted1 : (List Rule)) (wanted2 : (List Rule)) : Option ((List Int) × Bool) :=
 (wbZ w1.s).bind fun r1 =>
 (wbZ w1.t).bind fun r2 =>
 (wat 100 w1 wanted1 wanted2 [] 0 r1 r2).bind fun r3 =>
 some (r3.1, r3.2.1)
noncomputable def wdd (k1 : Int) (s1 : (List Rule)) (t1 : (List Rule)) : Option ((List Int) × Bool) :=
 (wct (⟨k1, s1, t1⟩ : Walker) s1 t1).bind fun r1 =>
 some (r1.1, r1.2)
noncomputable def wes (k1 : Int) (s1 : (List Rule)) (t1 : (List Rule)) : Option ((List Int) × Int) :=
 (wbm k1 [s1, t1]).bind fun r1 =>
 cond (decide (¬r1 = 0))
  (
  some ([], r1)
  )
  (
  (wdd k1 s1 t1).bind fun r2 =>
  (wcW r2.1 r2.2).bind fun r3 =>
  some (r3.1, r3.2)
  )
noncomputable def wc0 (t1 : (List Rule)) (set1 : Int) : Option Int :=
 (wdp set1).bind fun r1 =>
 cond (decide (r1 < 0))
  (
  some (-1)
  )
  (
  (idx t1 r1).bind fun e1 =>
  some e1.Code
  )
noncomputable def wa5 (k1 : Arr3_Int) (o1 : Compare) : Int → Option (Int ⊕ Int) := fun i2 =>
 cond (decide (0 ≤ i2))
  (
  (idx o1.alike.keys i2).bind fun e2 =>
  cond (!((e2.c0 == k1.c0) && ((e2.c1 == k1.c1) && (e2.c2 == k1.c2))))
   (
   (idx o1.alike.next i2).bind fun e3 =>
   some (.inl e3)
   )
   (
   some (.inr i2)
   )
  )
  (
  some (.inr i2)
  )
noncomputable def wbN (o1 : Compare) (k1 : Arr3_Int) : Option (Int × Compare) :=
 cond (decide ((o1.alike.heads.length : Int) = 0))
  (
  some ((-1), o1)
  )
  (
  (wcY k1).bind fun r1 =>
  (idx o1.alike.heads r1).bind fun e1 =>
  (
   (iter (wa5 k1 o1) e1).bind fun x_14 =>
   some x_14
   : Option Int).bind fun i1 =>
  some (i1, o1)
  )
noncomputable def wa9 : (List Int) → Option ((List Int) ⊕ (List Int)) := fun L2 =>
 cond (decide ((L2.length : Int) < 4096))
  (
  wah (L2.length + [(-1)].length ≤ 4294967296) <|
  some (.inl (L2 ++ [(-1)]))
  )
  (
  some (.inr L2)
  )
noncomputable def wbo (o1 : Compare) (k1 : Arr3_Int) : Option Compare :=
 (
  (iter wa9 o1.alike.heads).bind fun x_7 =>
  some x_7
  : Option (List Int)).bind fun L1 =>
 (wcY k1).bind fun r1 =>
 wah (o1.alike.keys.length + [k1].length ≤ 4294967296) <|
 (idx L1 r1).bind fun e1 =>
 wah (o1.alike.next.length + [e1].length ≤ 4294967296) <|
 (idx L1 r1).bind fun e2 =>
 some (⟨o1.k, o1.s, o1.t, (⟨(L1.set (r1).toNat (IntKind.i64.wrap (((o1.alike.keys.length + [k1].length) : Int) - 1))), (o1.alike.next ++ [e1]), (o1.alike.keys ++ [k1])⟩ : Table)⟩ : Compare)
noncomputable def wbk (r5 : (List Int)) : ((List Int) × Int) → Option (((List Int) × Int) ⊕ (List Int)) := fun (l2, i1) =>
 cond (decide (i1 < (r5.length : Int)))
  (
  (idx r5 i1).bind fun e1 =>
  (wcy l2 e1).bind fun r6 =>
  some (.inl (r6, (IntKind.i64.wrap (i1 + 1))))
  )
  (
  some (.inr l2)
  )
noncomputable def waY (mark1 : Int) (a1 : Int) (b1 : Int) (self : (Compare → Int → Int → Int → Option ((List Int) × Bool × Compare))) (l1 : (List Int)) : (Int × Int × Int × (List Rule) × (List Rule) × (List Int) × (List Int) × (List Arr3_Int)) → Option ((Int × Int × Int × (List Rule) × (List Rule) × (List Int) × (List Int) × (List Arr3_Int)) ⊕ ((Int × (List Rule) × (List Rule) × (List Int) × (List Int) × (List Arr3_Int)) ⊕ ((List Int) × Bool × Compare))) := fun (lo1, i2, c4, c5, c6, L4, L5, L6) =>
 cond (decide (i2 < (l1.length : Int)))
  (
  (waV c5 mark1 a1 lo1).bind fun r7 =>
  (waV c6 mark1 b1 lo1).bind fun r8 =>
  (self (⟨c4, c5, c6, (⟨L4, L5, L6⟩ : Table)⟩ : Compare) (IntKind.i64.wrap (mark1 + 1)) r7 r8).bind fun r9 =>
  cond r9.2.1
   (
   wah (1 + r9.1.length ≤ 4294967296) <|
   some (.inr (.inr (([lo1] ++ r9.1), true, r9.2.2)))
   )
   (
   (idx l1 i2).bind fun e2 =>
   some (.inl (e2, (IntKind.i64.wrap (i2 + 1)), r9.2.2.k, r9.2.2.s, r9.2.2.t, r9.2.2.alike.heads, r9.2.2.alike.next, r9.2.2.alike.keys))
   )
  )
  (
  some (.inr (.inl (c4, c5, c6, L4, L5, L6)))
  )
noncomputable def waM (self : (Compare → Int → Int → Int → Option ((List Int) × Bool × Compare))) (o1 : Compare) (mark1 : Int) (a1 : Int) (b1 : Int) : Option ((List Int) × Bool × Compare) :=
 cond (decide (mark1 = o1.k))
  (
  (wc0 o1.s a1).bind fun r1 =>
  (wc0 o1.t b1).bind fun r2 =>
  some ([], (decide (¬r1 = r2)), o1)
  )
  (
  (wbN o1 (⟨mark1, a1, b1⟩ : Arr3_Int)).bind fun r3 =>
  cond (decide (0 ≤ r3.1))
   (
   some ([], false, r3.2)
   )
   (
   (wbj r3.2.s mark1 a1).bind fun r4 =>
   (wbj r3.2.t mark1 b1).bind fun r5 =>
   (
    (iter (wbk r5) (r4, 0)).bind fun x_16 =>
    some x_16
    : Option (List Int)).bind fun l1 =>
   (
   (
    (
    (iter (waY mark1 a1 b1 self l1) (0, 0, r3.2.k, r3.2.s, r3.2.t, r3.2.alike.heads, r3.2.alike.next, r3.2.alike.keys)).bind fun x_32 => match x_32 with
      | (.inl y1) => some (.inl y1)
      | (.inr y2) => some (.inr y2)
    )
    : Option ((Int × (List Rule) × (List Rule) × (List Int) × (List Int) × (List Arr3_Int)) ⊕ ((List Int) × Bool × Compare))).bind fun o_26 => match o_26 with
     | (.inl (c1, c2, c3, L1, L2, L3)) =>
       (wbo (⟨c1, c2, c3, (⟨L1, L2, L3⟩ : Table)⟩ : Compare) (⟨mark1, a1, b1⟩ : Arr3_Int)).bind fun r10 =>
       some ([], false, r10)
     | (.inr y3) => some y3
   )
   )
  )
noncomputable def waw : Nat → Compare → Int → Int → Int → Option ((List Int) × Bool × Compare)
 | 0 => fun _ _ _ _ => none
 | n + 1 => waM (waw n)
noncomputable def wde (k1 : Int) (s1 : (List Rule)) (t1 : (List Rule)) : Option ((List Int) × Int) :=
 (wbR k1 s1).bind fun r1 =>
 (
  cond (decide (r1 = 0))
   (
   (wbR k1 t1).bind fun r2 =>
   some r2
   )
   (
   some r1
   )
  : Option Int).bind fun e1 =>
 cond (decide (¬e1 = 0))
  (
  some ([], e1)
  )
  (
  (wb4 s1).bind fun r3 =>
  (wb4 t1).bind fun r4 =>
  (waw 100 (⟨k1, s1, t1, (⟨[], [], []⟩ : Table)⟩ : Compare) 0 r3 r4).bind fun r5 =>
  cond (!r5.2.1)
   (
   some ([], 10)
   )
   (
   some (r5.1, 0)
   )
  )
noncomputable def wcR (t1 : (List Rule)) : (Int × (List Rule)) → Option ((Int × (List Rule)) ⊕ (List Rule)) := fun (v1, L2) =>
 cond (decide (v1 < (t1.length : Int)))
  (
  (idx t1 v1).bind fun e1 =>
  (wdX e1.Bands).bind fun r2 =>
  wah (L2.length + [(⟨r2, e1.Code⟩ : Rule)].length ≤ 4294967296) <|
  some (.inl ((IntKind.i64.wrap (v1 + 1)), (L2 ++ [(⟨r2, e1.Code⟩ : Rule)])))
  )
  (
  some (.inr L2)
  )
noncomputable def wbf (k1 : Int) : ((List Rule) × Int) → Option (((List Rule) × Int) ⊕ (List Rule)) := fun (out2, i1) =>
 cond (decide (0 ≤ i1))
  (
  (
   (wdX out2).bind fun r3 =>
   wah (wmH r3 i1 (IntKind.i64.wrap (i1 + 1)) = true) <|
   (wdd k1 out2 (List.take (wh4 r3 i1 (IntKind.i64.wrap (i1 + 1))) (wf3 r3 i1 (IntKind.i64.wrap (i1 + 1))))).bind fun r4 =>
   cond (!r4.2)
    (
    some (List.take (wh4 r3 i1 (IntKind.i64.wrap (i1 + 1))) (wf3 r3 i1 (IntKind.i64.wrap (i1 + 1))))
    )
    (
    some out2
    )
   : Option (List Rule)).bind fun out3 =>
  some (.inl (out3, (IntKind.i64.wrap (i1 - 1))))
  )
  (
  some (.inr out2)
  )
noncomputable def wcn (k1 : Int) (t1 : (List Rule)) : Option ((List Rule) × Int) :=
 (wbm k1 [t1]).bind fun r1 =>
 cond (decide (¬r1 = 0))
  (
  some ([], r1)
  )
  (
  (
   (iter (wcR t1) (0, [])).bind fun x_10 =>
   some x_10
   : Option (List Rule)).bind fun L1 =>
  (
   (iter (wbf k1) (L1, (IntKind.i64.wrap ((L1.length : Int) - 1)))).bind fun x_27 =>
   some x_27
   : Option (List Rule)).bind fun out1 =>
  some (out1, 0)
  )
noncomputable def wba (k1 : Int) : ((List Rule) × Int) → Option (((List Rule) × Int) ⊕ (List Rule)) := fun (now2, i1) =>
 cond (decide (0 ≤ i1))
  (
  (
   wah (0 ≤ 0 ∧ 0 ≤ i1 ∧ i1 ≤ (now2.length : Int)) <|
   wah (0 + (now2.take ((i1 : Int) - 0).toNat).length ≤ 4294967296) <|
   wah (0 ≤ (IntKind.i64.wrap (i1 + 1)) ∧ (IntKind.i64.wrap (i1 + 1)) ≤ (now2.length : Int) ∧ (now2.length : Int) ≤ (now2.length : Int)) <|
   wah ((0 + (now2.take ((i1 : Int) - 0).toNat).length) + ((now2.drop ((IntKind.i64.wrap (i1 + 1))).toNat).take (((now2.length : Int) : Int) - (IntKind.i64.wrap (i1 + 1))).toNat).length ≤ 4294967296) <|
   (wde k1 now2 ((now2.take ((i1 : Int) - 0).toNat) ++ ((now2.drop ((IntKind.i64.wrap (i1 + 1))).toNat).take (((now2.length : Int) : Int) - (IntKind.i64.wrap (i1 + 1))).toNat))).bind fun r2 =>
   cond (decide (r2.2 = 10))
    (
    some ((now2.take ((i1 : Int) - 0).toNat) ++ ((now2.drop ((IntKind.i64.wrap (i1 + 1))).toNat).take (((now2.length : Int) : Int) - (IntKind.i64.wrap (i1 + 1))).toNat))
    )
    (
    some now2
    )
   : Option (List Rule)).bind fun now3 =>
  some (.inl (now3, (IntKind.i64.wrap (i1 - 1))))
  )
  (
  some (.inr now2)
  )
noncomputable def wcm (k1 : Int) (t1 : (List Rule)) : Option ((List Rule) × Int) :=
 (wbR k1 t1).bind fun r1 =>
 cond (decide (¬r1 = 0))
  (
  some ([], r1)
  )
  (
  (
   (iter (wba k1) (t1, (IntKind.i64.wrap ((t1.length : Int) - 1)))).bind fun x_10 =>
   some x_10
   : Option (List Rule)).bind fun now1 =>
  some (now1, 0)
  )
end Go.Pv

namespace Go.Pv.Tryd
open Go.Proofs
noncomputable def T1 : Ty := (wad Tryd.prog 1).getD ⟨.invalid, 0, 0, none⟩
@[go_sem] theorem ty1 : wad Tryd.prog 1 = some T1 := by kernel_rfl
@[go_sem] theorem T1_desc : T1.desc = .func #[] #[] false := by kernel_rfl
@[go_sem] theorem T1_size : T1.size = 1 := by kernel_rfl
@[go_sem] theorem T1_bytes : T1.bytes = 8 := by kernel_rfl
@[go_sem] theorem T1_zero : wai T1 = some (.d .nilfunc) := by kernel_rfl
@[go_sem] theorem T1_ok : waf T1 = true := by kernel_rfl
noncomputable def T2 : Ty := (wad Tryd.prog 2).getD ⟨.invalid, 0, 0, none⟩
@[go_sem] theorem ty2 : wad Tryd.prog 2 = some T2 := by kernel_rfl
@[go_sem] theorem T2_desc : T2.desc = .int .i64 := by kernel_rfl
@[go_sem] theorem T2_size : T2.size = 1 := by kernel_rfl
@[go_sem] theorem T2_bytes : T2.bytes = 8 := by kernel_rfl
@[go_sem] theorem T2_zero : wai T2 = some (.d (.int .i64 0)) := by kernel_rfl
@[go_sem] theorem T2_ok : waf T2 = true := by kernel_rfl
noncomputable def T3 : Ty := (wad Tryd.prog 3).getD ⟨.invalid, 0, 0, none⟩
@[go_sem] theorem ty3 : wad Tryd.prog 3 = some T3 := by kernel_rfl
@[go_sem] theorem T3_desc : T3.desc = .int .i64 := by kernel_rfl
@[go_sem] theorem T3_size : T3.size = 1 := by kernel_rfl
@[go_sem] theorem T3_bytes : T3.bytes = 8 := by kernel_rfl
@[go_sem] theorem T3_zero : wai T3 = some (.d (.int .i64 0)) := by kernel_rfl
@[go_sem] theorem T3_ok : waf T3 = true := by kernel_rfl
noncomputable def T4 : Ty := (wad Tryd.prog 4).getD ⟨.invalid, 0, 0, none⟩
@[go_sem] theorem ty4 : wad Tryd.prog 4 = some T4 := by kernel_rfl
@[go_sem] theorem T4_desc : T4.desc = .bool := by kernel_rfl
@[go_sem] theorem T4_size : T4.size = 1 := by kernel_rfl
@[go_sem] theorem T4_bytes : T4.bytes = 1 := by kernel_rfl
@[go_sem] theorem T4_zero : wai T4 = some (.d (.bool false)) := by kernel_rfl
@[go_sem] theorem T4_ok : waf T4 = true := by kernel_rfl
noncomputable def T5 : Ty := (wad Tryd.prog 5).getD ⟨.invalid, 0, 0, none⟩
@[go_sem] theorem ty5 : wad Tryd.prog 5 = some T5 := by kernel_rfl
@[go_sem] theorem T5_desc : T5.desc = .int .u8 := by kernel_rfl
@[go_sem] theorem T5_size : T5.size = 1 := by kernel_rfl
@[go_sem] theorem T5_bytes : T5.bytes = 1 := by kernel_rfl
@[go_sem] theorem T5_zero : wai T5 = some (.d (.int .u8 0)) := by kernel_rfl
@[go_sem] theorem T5_ok : waf T5 = true := by kernel_rfl
noncomputable def T9 : Ty := (wad Tryd.prog 9).getD ⟨.invalid, 0, 0, none⟩
@[go_sem] theorem ty9 : wad Tryd.prog 9 = some T9 := by kernel_rfl
@[go_sem] theorem T9_desc : T9.desc = .string := by kernel_rfl
@[go_sem] theorem T9_size : T9.size = 1 := by kernel_rfl
@[go_sem] theorem T9_bytes : T9.bytes = 16 := by kernel_rfl
@[go_sem] theorem T9_zero : wai T9 = some (.d (.str ⟨#[]⟩)) := by kernel_rfl
@[go_sem] theorem T9_ok : waf T9 = true := by kernel_rfl
noncomputable def T12 : Ty := (wad Tryd.prog 12).getD ⟨.invalid, 0, 0, none⟩
@[go_sem] theorem ty12 : wad Tryd.prog 12 = some T12 := by kernel_rfl
@[go_sem] theorem T12_desc : T12.desc = .int .u64 := by kernel_rfl
@[go_sem] theorem T12_size : T12.size = 1 := by kernel_rfl
@[go_sem] theorem T12_bytes : T12.bytes = 8 := by kernel_rfl
@[go_sem] theorem T12_zero : wai T12 = some (.d (.int .u64 0)) := by kernel_rfl
@[go_sem] theorem T12_ok : waf T12 = true := by kernel_rfl
noncomputable def T13 : Ty := (wad Tryd.prog 13).getD ⟨.invalid, 0, 0, none⟩
@[go_sem] theorem ty13 : wad Tryd.prog 13 = some T13 := by kernel_rfl
noncomputable def fs13 : Array Field := match T13.desc with | .struct fs => fs | _ => #[]
@[go_sem] theorem T13_desc : T13.desc = .struct fs13 := by kernel_rfl
noncomputable def fs13_0 : Field := fs13.getD 0 default
@[go_sem] theorem fs13_at0 : fs13[0]? = some fs13_0 := by kernel_rfl
@[go_sem] theorem fs13_0_type : fs13_0.type = 9 := by kernel_rfl
@[go_sem] theorem fs13_0_off : fs13_0.offset = 0 := by kernel_rfl
@[go_sem] theorem fo13_0 : wau Tryd.prog 13 0 = some (0, 1) := by kernel_rfl
noncomputable def fs13_1 : Field := fs13.getD 1 default
@[go_sem] theorem fs13_at1 : fs13[1]? = some fs13_1 := by kernel_rfl
@[go_sem] theorem fs13_1_type : fs13_1.type = 12 := by kernel_rfl
@[go_sem] theorem fs13_1_off : fs13_1.offset = 1 := by kernel_rfl
@[go_sem] theorem fo13_1 : wau Tryd.prog 13 1 = some (1, 1) := by kernel_rfl
@[go_sem] theorem pl13 : wbq Tryd.prog fs13.toList = some [(0, 1), (1, 1)] := by kernel_rfl
@[go_sem] theorem T13_size : T13.size = 2 := by kernel_rfl
@[go_sem] theorem T13_bytes : T13.bytes = 24 := by kernel_rfl
-- zero of 13: strings or floats
@[go_sem] theorem T13_ok : waf T13 = true := by kernel_rfl
noncomputable def T21 : Ty := (wad Tryd.prog 21).getD ⟨.invalid, 0, 0, none⟩
@[go_sem] theorem ty21 : wad Tryd.prog 21 = some T21 := by kernel_rfl
@[go_sem] theorem T21_desc : T21.desc = .int .i32 := by kernel_rfl
@[go_sem] theorem T21_size : T21.size = 1 := by kernel_rfl
@[go_sem] theorem T21_bytes : T21.bytes = 4 := by kernel_rfl
@[go_sem] theorem T21_zero : wai T21 = some (.d (.int .i32 0)) := by kernel_rfl
@[go_sem] theorem T21_ok : waf T21 = true := by kernel_rfl
noncomputable def T22 : Ty := (wad Tryd.prog 22).getD ⟨.invalid, 0, 0, none⟩
@[go_sem] theorem ty22 : wad Tryd.prog 22 = some T22 := by kernel_rfl
@[go_sem] theorem T22_desc : T22.desc = .slice 56 := by kernel_rfl
@[go_sem] theorem es22 : wby Tryd.prog 22 = some 2 := by kernel_rfl
@[go_sem] theorem T22_size : T22.size = 1 := by kernel_rfl
@[go_sem] theorem T22_bytes : T22.bytes = 24 := by kernel_rfl
@[go_sem] theorem T22_zero : wai T22 = some (.d .nilslice) := by kernel_rfl
@[go_sem] theorem T22_ok : waf T22 = true := by kernel_rfl
noncomputable def T23 : Ty := (wad Tryd.prog 23).getD ⟨.invalid, 0, 0, none⟩
@[go_sem] theorem ty23 : wad Tryd.prog 23 = some T23 := by kernel_rfl
@[go_sem] theorem T23_desc : T23.desc = .func #[3, 22] #[4] false := by kernel_rfl
@[go_sem] theorem T23_size : T23.size = 1 := by kernel_rfl
@[go_sem] theorem T23_bytes : T23.bytes = 8 := by kernel_rfl
@[go_sem] theorem T23_zero : wai T23 = some (.d .nilfunc) := by kernel_rfl
@[go_sem] theorem T23_ok : waf T23 = true := by kernel_rfl
noncomputable def T24 : Ty := (wad Tryd.prog 24).getD ⟨.invalid, 0, 0, none⟩
@[go_sem] theorem ty24 : wad Tryd.prog 24 = some T24 := by kernel_rfl
@[go_sem] theorem T24_desc : T24.desc = .func #[] #[4] false := by kernel_rfl
@[go_sem] theorem T24_size : T24.size = 1 := by kernel_rfl
@[go_sem] theorem T24_bytes : T24.bytes = 8 := by kernel_rfl
@[go_sem] theorem T24_zero : wai T24 = some (.d .nilfunc) := by kernel_rfl
@[go_sem] theorem T24_ok : waf T24 = true := by kernel_rfl
noncomputable def T25 : Ty := (wad Tryd.prog 25).getD ⟨.invalid, 0, 0, none⟩
@[go_sem] theorem ty25 : wad Tryd.prog 25 = some T25 := by kernel_rfl
@[go_sem] theorem T25_desc : T25.desc = .func #[22] #[22] false := by kernel_rfl
@[go_sem] theorem T25_size : T25.size = 1 := by kernel_rfl
@[go_sem] theorem T25_bytes : T25.bytes = 8 := by kernel_rfl
@[go_sem] theorem T25_zero : wai T25 = some (.d .nilfunc) := by kernel_rfl
@[go_sem] theorem T25_ok : waf T25 = true := by kernel_rfl
noncomputable def T26 : Ty := (wad Tryd.prog 26).getD ⟨.invalid, 0, 0, none⟩
@[go_sem] theorem ty26 : wad Tryd.prog 26 = some T26 := by kernel_rfl
@[go_sem] theorem T26_desc : T26.desc = .slice 3 := by kernel_rfl
@[go_sem] theorem es26 : wby Tryd.prog 26 = some 1 := by kernel_rfl
@[go_sem] theorem T26_size : T26.size = 1 := by kernel_rfl
@[go_sem] theorem T26_bytes : T26.bytes = 24 := by kernel_rfl
@[go_sem] theorem T26_zero : wai T26 = some (.d .nilslice) := by kernel_rfl
@[go_sem] theorem T26_ok : waf T26 = true := by kernel_rfl
noncomputable def T27 : Ty := (wad Tryd.prog 27).getD ⟨.invalid, 0, 0, none⟩
@[go_sem] theorem ty27 : wad Tryd.prog 27 = some T27 := by kernel_rfl
@[go_sem] theorem T27_desc : T27.desc = .int .i64 := by kernel_rfl
@[go_sem] theorem T27_size : T27.size = 1 := by kernel_rfl
@[go_sem] theorem T27_bytes : T27.bytes = 8 := by kernel_rfl
@[go_sem] theorem T27_zero : wai T27 = some (.d (.int .i64 0)) := by kernel_rfl
@[go_sem] theorem T27_ok : waf T27 = true := by kernel_rfl
noncomputable def T29 : Ty := (wad Tryd.prog 29).getD ⟨.invalid, 0, 0, none⟩
@[go_sem] theorem ty29 : wad Tryd.prog 29 = some T29 := by kernel_rfl
@[go_sem] theorem T29_desc : T29.desc = .func #[3, 22] #[26, 27] false := by kernel_rfl
@[go_sem] theorem T29_size : T29.size = 1 := by kernel_rfl
@[go_sem] theorem T29_bytes : T29.bytes = 8 := by kernel_rfl
@[go_sem] theorem T29_zero : wai T29 = some (.d .nilfunc) := by kernel_rfl
@[go_sem] theorem T29_ok : waf T29 = true := by kernel_rfl
noncomputable def T30 : Ty := (wad Tryd.prog 30).getD ⟨.invalid, 0, 0, none⟩
@[go_sem] theorem ty30 : wad Tryd.prog 30 = some T30 := by kernel_rfl
@[go_sem] theorem T30_desc : T30.desc = .func #[26, 26] #[4] false := by kernel_rfl
@[go_sem] theorem T30_size : T30.size = 1 := by kernel_rfl
@[go_sem] theorem T30_bytes : T30.bytes = 8 := by kernel_rfl
@[go_sem] theorem T30_zero : wai T30 = some (.d .nilfunc) := by kernel_rfl
@[go_sem] theorem T30_ok : waf T30 = true := by kernel_rfl
noncomputable def T31 : Ty := (wad Tryd.prog 31).getD ⟨.invalid, 0, 0, none⟩
@[go_sem] theorem ty31 : wad Tryd.prog 31 = some T31 := by kernel_rfl
@[go_sem] theorem T31_desc : T31.desc = .func #[22, 22] #[4] false := by kernel_rfl
@[go_sem] theorem T31_size : T31.size = 1 := by kernel_rfl
@[go_sem] theorem T31_bytes : T31.bytes = 8 := by kernel_rfl
@[go_sem] theorem T31_zero : wai T31 = some (.d .nilfunc) := by kernel_rfl
@[go_sem] theorem T31_ok : waf T31 = true := by kernel_rfl
noncomputable def T32 : Ty := (wad Tryd.prog 32).getD ⟨.invalid, 0, 0, none⟩
@[go_sem] theorem ty32 : wad Tryd.prog 32 = some T32 := by kernel_rfl
@[go_sem] theorem T32_desc : T32.desc = .slice 37 := by kernel_rfl
@[go_sem] theorem es32 : wby Tryd.prog 32 = some 3 := by kernel_rfl
@[go_sem] theorem T32_size : T32.size = 1 := by kernel_rfl
@[go_sem] theorem T32_bytes : T32.bytes = 24 := by kernel_rfl
@[go_sem] theorem T32_zero : wai T32 = some (.d .nilslice) := by kernel_rfl
@[go_sem] theorem T32_ok : waf T32 = true := by kernel_rfl
noncomputable def T36 : Ty := (wad Tryd.prog 36).getD ⟨.invalid, 0, 0, none⟩
@[go_sem] theorem ty36 : wad Tryd.prog 36 = some T36 := by kernel_rfl
noncomputable def fs36 : Array Field := match T36.desc with | .struct fs => fs | _ => #[]
@[go_sem] theorem T36_desc : T36.desc = .struct fs36 := by kernel_rfl
noncomputable def fs36_0 : Field := fs36.getD 0 default
@[go_sem] theorem fs36_at0 : fs36[0]? = some fs36_0 := by kernel_rfl
@[go_sem] theorem fs36_0_type : fs36_0.type = 3 := by kernel_rfl
@[go_sem] theorem fs36_0_off : fs36_0.offset = 0 := by kernel_rfl
@[go_sem] theorem fo36_0 : wau Tryd.prog 36 0 = some (0, 1) := by kernel_rfl
noncomputable def fs36_1 : Field := fs36.getD 1 default
@[go_sem] theorem fs36_at1 : fs36[1]? = some fs36_1 := by kernel_rfl
@[go_sem] theorem fs36_1_type : fs36_1.type = 26 := by kernel_rfl
@[go_sem] theorem fs36_1_off : fs36_1.offset = 1 := by kernel_rfl
@[go_sem] theorem fo36_1 : wau Tryd.prog 36 1 = some (1, 1) := by kernel_rfl
noncomputable def fs36_2 : Field := fs36.getD 2 default
@[go_sem] theorem fs36_at2 : fs36[2]? = some fs36_2 := by kernel_rfl
@[go_sem] theorem fs36_2_type : fs36_2.type = 26 := by kernel_rfl
@[go_sem] theorem fs36_2_off : fs36_2.offset = 2 := by kernel_rfl
@[go_sem] theorem fo36_2 : wau Tryd.prog 36 2 = some (2, 1) := by kernel_rfl
@[go_sem] theorem pl36 : wbq Tryd.prog fs36.toList = some [(0, 1), (1, 1), (2, 1)] := by kernel_rfl
@[go_sem] theorem T36_size : T36.size = 3 := by kernel_rfl
@[go_sem] theorem T36_bytes : T36.bytes = 56 := by kernel_rfl
@[go_sem] theorem T36_cells : zeroCells T36.zero = some [.d (.int .i64 0), .d .nilslice, .d .nilslice] := by kernel_rfl
@[go_sem] theorem T36_zero : wai T36 = some (.d (.agg [(.int .i64 0), .nilslice, .nilslice])) := by kernel_rfl
@[go_sem] theorem T36_ok : waf T36 = true := by kernel_rfl
noncomputable def T37 : Ty := (wad Tryd.prog 37).getD ⟨.invalid, 0, 0, none⟩
@[go_sem] theorem ty37 : wad Tryd.prog 37 = some T37 := by kernel_rfl
noncomputable def fs37 : Array Field := match T37.desc with | .struct fs => fs | _ => #[]
@[go_sem] theorem T37_desc : T37.desc = .struct fs37 := by kernel_rfl
noncomputable def fs37_0 : Field := fs37.getD 0 default
@[go_sem] theorem fs37_at0 : fs37[0]? = some fs37_0 := by kernel_rfl
@[go_sem] theorem fs37_0_type : fs37_0.type = 3 := by kernel_rfl
@[go_sem] theorem fs37_0_off : fs37_0.offset = 0 := by kernel_rfl
@[go_sem] theorem fo37_0 : wau Tryd.prog 37 0 = some (0, 1) := by kernel_rfl
noncomputable def fs37_1 : Field := fs37.getD 1 default
@[go_sem] theorem fs37_at1 : fs37[1]? = some fs37_1 := by kernel_rfl
@[go_sem] theorem fs37_1_type : fs37_1.type = 26 := by kernel_rfl
@[go_sem] theorem fs37_1_off : fs37_1.offset = 1 := by kernel_rfl
@[go_sem] theorem fo37_1 : wau Tryd.prog 37 1 = some (1, 1) := by kernel_rfl
noncomputable def fs37_2 : Field := fs37.getD 2 default
@[go_sem] theorem fs37_at2 : fs37[2]? = some fs37_2 := by kernel_rfl
@[go_sem] theorem fs37_2_type : fs37_2.type = 26 := by kernel_rfl
@[go_sem] theorem fs37_2_off : fs37_2.offset = 2 := by kernel_rfl
@[go_sem] theorem fo37_2 : wau Tryd.prog 37 2 = some (2, 1) := by kernel_rfl
@[go_sem] theorem pl37 : wbq Tryd.prog fs37.toList = some [(0, 1), (1, 1), (2, 1)] := by kernel_rfl
@[go_sem] theorem T37_size : T37.size = 3 := by kernel_rfl
@[go_sem] theorem T37_bytes : T37.bytes = 56 := by kernel_rfl
@[go_sem] theorem T37_cells : zeroCells T37.zero = some [.d (.int .i64 0), .d .nilslice, .d .nilslice] := by kernel_rfl
@[go_sem] theorem T37_zero : wai T37 = some (.d (.agg [(.int .i64 0), .nilslice, .nilslice])) := by kernel_rfl
@[go_sem] theorem T37_ok : waf T37 = true := by kernel_rfl
noncomputable def T39 : Ty := (wad Tryd.prog 39).getD ⟨.invalid, 0, 0, none⟩
@[go_sem] theorem ty39 : wad Tryd.prog 39 = some T39 := by kernel_rfl
@[go_sem] theorem T39_desc : T39.desc = .func #[3, 22] #[26, 3, 27] false := by kernel_rfl
@[go_sem] theorem T39_size : T39.size = 1 := by kernel_rfl
@[go_sem] theorem T39_bytes : T39.bytes = 8 := by kernel_rfl
@[go_sem] theorem T39_zero : wai T39 = some (.d .nilfunc) := by kernel_rfl
@[go_sem] theorem T39_ok : waf T39 = true := by kernel_rfl
noncomputable def T40 : Ty := (wad Tryd.prog 40).getD ⟨.invalid, 0, 0, none⟩
@[go_sem] theorem ty40 : wad Tryd.prog 40 = some T40 := by kernel_rfl
@[go_sem] theorem T40_desc : T40.desc = .func #[3, 22, 22] #[26, 27] false := by kernel_rfl
@[go_sem] theorem T40_size : T40.size = 1 := by kernel_rfl
@[go_sem] theorem T40_bytes : T40.bytes = 8 := by kernel_rfl
@[go_sem] theorem T40_zero : wai T40 = some (.d .nilfunc) := by kernel_rfl
@[go_sem] theorem T40_ok : waf T40 = true := by kernel_rfl
noncomputable def T41 : Ty := (wad Tryd.prog 41).getD ⟨.invalid, 0, 0, none⟩
@[go_sem] theorem ty41 : wad Tryd.prog 41 = some T41 := by kernel_rfl
@[go_sem] theorem T41_desc : T41.desc = .func #[3, 22, 22] #[4] false := by kernel_rfl
@[go_sem] theorem T41_size : T41.size = 1 := by kernel_rfl
@[go_sem] theorem T41_bytes : T41.bytes = 8 := by kernel_rfl
@[go_sem] theorem T41_zero : wai T41 = some (.d .nilfunc) := by kernel_rfl
@[go_sem] theorem T41_ok : waf T41 = true := by kernel_rfl
noncomputable def T45 : Ty := (wad Tryd.prog 45).getD ⟨.invalid, 0, 0, none⟩
@[go_sem] theorem ty45 : wad Tryd.prog 45 = some T45 := by kernel_rfl
@[go_sem] theorem T45_desc : T45.desc = .func #[3, 22, 26] #[3, 3, 27] false := by kernel_rfl
@[go_sem] theorem T45_size : T45.size = 1 := by kernel_rfl
@[go_sem] theorem T45_bytes : T45.bytes = 8 := by kernel_rfl
@[go_sem] theorem T45_zero : wai T45 = some (.d .nilfunc) := by kernel_rfl
@[go_sem] theorem T45_ok : waf T45 = true := by kernel_rfl
noncomputable def T48 : Ty := (wad Tryd.prog 48).getD ⟨.invalid, 0, 0, none⟩
@[go_sem] theorem ty48 : wad Tryd.prog 48 = some T48 := by kernel_rfl
@[go_sem] theorem T48_desc : T48.desc = .func #[3, 32, 26] #[3, 27] false := by kernel_rfl
@[go_sem] theorem T48_size : T48.size = 1 := by kernel_rfl
@[go_sem] theorem T48_bytes : T48.bytes = 8 := by kernel_rfl
@[go_sem] theorem T48_zero : wai T48 = some (.d .nilfunc) := by kernel_rfl
@[go_sem] theorem T48_ok : waf T48 = true := by kernel_rfl
noncomputable def T49 : Ty := (wad Tryd.prog 49).getD ⟨.invalid, 0, 0, none⟩
@[go_sem] theorem ty49 : wad Tryd.prog 49 = some T49 := by kernel_rfl
@[go_sem] theorem T49_desc : T49.desc = .func #[3, 32, 26] #[4] false := by kernel_rfl
@[go_sem] theorem T49_size : T49.size = 1 := by kernel_rfl
@[go_sem] theorem T49_bytes : T49.bytes = 8 := by kernel_rfl
@[go_sem] theorem T49_zero : wai T49 = some (.d .nilfunc) := by kernel_rfl
@[go_sem] theorem T49_ok : waf T49 = true := by kernel_rfl
noncomputable def T50 : Ty := (wad Tryd.prog 50).getD ⟨.invalid, 0, 0, none⟩
@[go_sem] theorem ty50 : wad Tryd.prog 50 = some T50 := by kernel_rfl
@[go_sem] theorem T50_desc : T50.desc = .int .u16 := by kernel_rfl
@[go_sem] theorem T50_size : T50.size = 1 := by kernel_rfl
@[go_sem] theorem T50_bytes : T50.bytes = 2 := by kernel_rfl
@[go_sem] theorem T50_zero : wai T50 = some (.d (.int .u16 0)) := by kernel_rfl
@[go_sem] theorem T50_ok : waf T50 = true := by kernel_rfl
noncomputable def T51 : Ty := (wad Tryd.prog 51).getD ⟨.invalid, 0, 0, none⟩
@[go_sem] theorem ty51 : wad Tryd.prog 51 = some T51 := by kernel_rfl
@[go_sem] theorem T51_desc : T51.desc = .func #[4, 50] #[4] false := by kernel_rfl
@[go_sem] theorem T51_size : T51.size = 1 := by kernel_rfl
@[go_sem] theorem T51_bytes : T51.bytes = 8 := by kernel_rfl
@[go_sem] theorem T51_zero : wai T51 = some (.d .nilfunc) := by kernel_rfl
@[go_sem] theorem T51_ok : waf T51 = true := by kernel_rfl
noncomputable def T52 : Ty := (wad Tryd.prog 52).getD ⟨.invalid, 0, 0, none⟩
@[go_sem] theorem ty52 : wad Tryd.prog 52 = some T52 := by kernel_rfl
@[go_sem] theorem T52_desc : T52.desc = .slice 5 := by kernel_rfl
@[go_sem] theorem es52 : wby Tryd.prog 52 = some 1 := by kernel_rfl
@[go_sem] theorem T52_size : T52.size = 1 := by kernel_rfl
@[go_sem] theorem T52_bytes : T52.bytes = 24 := by kernel_rfl
@[go_sem] theorem T52_zero : wai T52 = some (.d .nilslice) := by kernel_rfl
@[go_sem] theorem T52_ok : waf T52 = true := by kernel_rfl
noncomputable def T53 : Ty := (wad Tryd.prog 53).getD ⟨.invalid, 0, 0, none⟩
@[go_sem] theorem ty53 : wad Tryd.prog 53 = some T53 := by kernel_rfl
@[go_sem] theorem T53_desc : T53.desc = .func #[3, 22] #[27] false := by kernel_rfl
@[go_sem] theorem T53_size : T53.size = 1 := by kernel_rfl
@[go_sem] theorem T53_bytes : T53.bytes = 8 := by kernel_rfl
@[go_sem] theorem T53_zero : wai T53 = some (.d .nilfunc) := by kernel_rfl
@[go_sem] theorem T53_ok : waf T53 = true := by kernel_rfl
noncomputable def T54 : Ty := (wad Tryd.prog 54).getD ⟨.invalid, 0, 0, none⟩
@[go_sem] theorem ty54 : wad Tryd.prog 54 = some T54 := by kernel_rfl
@[go_sem] theorem T54_desc : T54.desc = .slice 61 := by kernel_rfl
@[go_sem] theorem es54 : wby Tryd.prog 54 = some 2 := by kernel_rfl
@[go_sem] theorem T54_size : T54.size = 1 := by kernel_rfl
@[go_sem] theorem T54_bytes : T54.bytes = 24 := by kernel_rfl
@[go_sem] theorem T54_zero : wai T54 = some (.d .nilslice) := by kernel_rfl
@[go_sem] theorem T54_ok : waf T54 = true := by kernel_rfl
noncomputable def T55 : Ty := (wad Tryd.prog 55).getD ⟨.invalid, 0, 0, none⟩
@[go_sem] theorem ty55 : wad Tryd.prog 55 = some T55 := by kernel_rfl
noncomputable def fs55 : Array Field := match T55.desc with | .struct fs => fs | _ => #[]
@[go_sem] theorem T55_desc : T55.desc = .struct fs55 := by kernel_rfl
noncomputable def fs55_0 : Field := fs55.getD 0 default
@[go_sem] theorem fs55_at0 : fs55[0]? = some fs55_0 := by kernel_rfl
@[go_sem] theorem fs55_0_type : fs55_0.type = 54 := by kernel_rfl
@[go_sem] theorem fs55_0_off : fs55_0.offset = 0 := by kernel_rfl
@[go_sem] theorem fo55_0 : wau Tryd.prog 55 0 = some (0, 1) := by kernel_rfl
noncomputable def fs55_1 : Field := fs55.getD 1 default
@[go_sem] theorem fs55_at1 : fs55[1]? = some fs55_1 := by kernel_rfl
@[go_sem] theorem fs55_1_type : fs55_1.type = 3 := by kernel_rfl
@[go_sem] theorem fs55_1_off : fs55_1.offset = 1 := by kernel_rfl
@[go_sem] theorem fo55_1 : wau Tryd.prog 55 1 = some (1, 1) := by kernel_rfl
@[go_sem] theorem pl55 : wbq Tryd.prog fs55.toList = some [(0, 1), (1, 1)] := by kernel_rfl
@[go_sem] theorem T55_size : T55.size = 2 := by kernel_rfl
@[go_sem] theorem T55_bytes : T55.bytes = 32 := by kernel_rfl
@[go_sem] theorem T55_cells : zeroCells T55.zero = some [.d .nilslice, .d (.int .i64 0)] := by kernel_rfl
@[go_sem] theorem T55_zero : wai T55 = some (.d (.agg [.nilslice, (.int .i64 0)])) := by kernel_rfl
@[go_sem] theorem T55_ok : waf T55 = true := by kernel_rfl
noncomputable def T56 : Ty := (wad Tryd.prog 56).getD ⟨.invalid, 0, 0, none⟩
@[go_sem] theorem ty56 : wad Tryd.prog 56 = some T56 := by kernel_rfl
noncomputable def fs56 : Array Field := match T56.desc with | .struct fs => fs | _ => #[]
@[go_sem] theorem T56_desc : T56.desc = .struct fs56 := by kernel_rfl
noncomputable def fs56_0 : Field := fs56.getD 0 default
@[go_sem] theorem fs56_at0 : fs56[0]? = some fs56_0 := by kernel_rfl
@[go_sem] theorem fs56_0_type : fs56_0.type = 54 := by kernel_rfl
@[go_sem] theorem fs56_0_off : fs56_0.offset = 0 := by kernel_rfl
@[go_sem] theorem fo56_0 : wau Tryd.prog 56 0 = some (0, 1) := by kernel_rfl
noncomputable def fs56_1 : Field := fs56.getD 1 default
@[go_sem] theorem fs56_at1 : fs56[1]? = some fs56_1 := by kernel_rfl
@[go_sem] theorem fs56_1_type : fs56_1.type = 3 := by kernel_rfl
@[go_sem] theorem fs56_1_off : fs56_1.offset = 1 := by kernel_rfl
@[go_sem] theorem fo56_1 : wau Tryd.prog 56 1 = some (1, 1) := by kernel_rfl
@[go_sem] theorem pl56 : wbq Tryd.prog fs56.toList = some [(0, 1), (1, 1)] := by kernel_rfl
@[go_sem] theorem T56_size : T56.size = 2 := by kernel_rfl
@[go_sem] theorem T56_bytes : T56.bytes = 32 := by kernel_rfl
@[go_sem] theorem T56_cells : zeroCells T56.zero = some [.d .nilslice, .d (.int .i64 0)] := by kernel_rfl
@[go_sem] theorem T56_zero : wai T56 = some (.d (.agg [.nilslice, (.int .i64 0)])) := by kernel_rfl
@[go_sem] theorem T56_ok : waf T56 = true := by kernel_rfl
noncomputable def T57 : Ty := (wad Tryd.prog 57).getD ⟨.invalid, 0, 0, none⟩
@[go_sem] theorem ty57 : wad Tryd.prog 57 = some T57 := by kernel_rfl
@[go_sem] theorem T57_desc : T57.desc = .func #[3, 22, 52] #[4] false := by kernel_rfl
@[go_sem] theorem T57_size : T57.size = 1 := by kernel_rfl
@[go_sem] theorem T57_bytes : T57.bytes = 8 := by kernel_rfl
@[go_sem] theorem T57_zero : wai T57 = some (.d .nilfunc) := by kernel_rfl
@[go_sem] theorem T57_ok : waf T57 = true := by kernel_rfl
noncomputable def T60 : Ty := (wad Tryd.prog 60).getD ⟨.invalid, 0, 0, none⟩
@[go_sem] theorem ty60 : wad Tryd.prog 60 = some T60 := by kernel_rfl
noncomputable def fs60 : Array Field := match T60.desc with | .struct fs => fs | _ => #[]
@[go_sem] theorem T60_desc : T60.desc = .struct fs60 := by kernel_rfl
noncomputable def fs60_0 : Field := fs60.getD 0 default
@[go_sem] theorem fs60_at0 : fs60[0]? = some fs60_0 := by kernel_rfl
@[go_sem] theorem fs60_0_type : fs60_0.type = 3 := by kernel_rfl
@[go_sem] theorem fs60_0_off : fs60_0.offset = 0 := by kernel_rfl
@[go_sem] theorem fo60_0 : wau Tryd.prog 60 0 = some (0, 1) := by kernel_rfl
@[go_sem] theorem fs60_0_nm : (fs60_0.name == "_") = false := by kernel_rfl
noncomputable def fs60_1 : Field := fs60.getD 1 default
@[go_sem] theorem fs60_at1 : fs60[1]? = some fs60_1 := by kernel_rfl
@[go_sem] theorem fs60_1_type : fs60_1.type = 3 := by kernel_rfl
@[go_sem] theorem fs60_1_off : fs60_1.offset = 1 := by kernel_rfl
@[go_sem] theorem fo60_1 : wau Tryd.prog 60 1 = some (1, 1) := by kernel_rfl
@[go_sem] theorem fs60_1_nm : (fs60_1.name == "_") = false := by kernel_rfl
@[go_sem] theorem sih60 : Tryd.prog.stoodInHeld 60 = false := by kernel_rfl
@[go_sem] theorem egt60 : Tryd.prog.eqGuardType Tryd.prog.depth 60 = false := by kernel_rfl
@[go_sem] theorem pl60 : wbq Tryd.prog fs60.toList = some [(0, 1), (1, 1)] := by kernel_rfl
@[go_sem] theorem T60_size : T60.size = 2 := by kernel_rfl
@[go_sem] theorem T60_bytes : T60.bytes = 16 := by kernel_rfl
@[go_sem] theorem T60_cells : zeroCells T60.zero = some [.d (.int .i64 0), .d (.int .i64 0)] := by kernel_rfl
@[go_sem] theorem T60_zero : wai T60 = some (.d (.agg [(.int .i64 0), (.int .i64 0)])) := by kernel_rfl
@[go_sem] theorem T60_ok : waf T60 = true := by kernel_rfl
noncomputable def T61 : Ty := (wad Tryd.prog 61).getD ⟨.invalid, 0, 0, none⟩
@[go_sem] theorem ty61 : wad Tryd.prog 61 = some T61 := by kernel_rfl
noncomputable def fs61 : Array Field := match T61.desc with | .struct fs => fs | _ => #[]
@[go_sem] theorem T61_desc : T61.desc = .struct fs61 := by kernel_rfl
noncomputable def fs61_0 : Field := fs61.getD 0 default
@[go_sem] theorem fs61_at0 : fs61[0]? = some fs61_0 := by kernel_rfl
@[go_sem] theorem fs61_0_type : fs61_0.type = 3 := by kernel_rfl
@[go_sem] theorem fs61_0_off : fs61_0.offset = 0 := by kernel_rfl
@[go_sem] theorem fo61_0 : wau Tryd.prog 61 0 = some (0, 1) := by kernel_rfl
@[go_sem] theorem fs61_0_nm : (fs61_0.name == "_") = false := by kernel_rfl
noncomputable def fs61_1 : Field := fs61.getD 1 default
@[go_sem] theorem fs61_at1 : fs61[1]? = some fs61_1 := by kernel_rfl
@[go_sem] theorem fs61_1_type : fs61_1.type = 3 := by kernel_rfl
@[go_sem] theorem fs61_1_off : fs61_1.offset = 1 := by kernel_rfl
@[go_sem] theorem fo61_1 : wau Tryd.prog 61 1 = some (1, 1) := by kernel_rfl
@[go_sem] theorem fs61_1_nm : (fs61_1.name == "_") = false := by kernel_rfl
theorem wsY : fs61.toList = [fs61_0, fs61_1] := by kernel_rfl
@[go_sem] theorem sih61 : Tryd.prog.stoodInHeld 61 = false := by kernel_rfl
@[go_sem] theorem egt61 : Tryd.prog.eqGuardType Tryd.prog.depth 61 = false := by kernel_rfl
@[go_sem] theorem pl61 : wbq Tryd.prog fs61.toList = some [(0, 1), (1, 1)] := by kernel_rfl
@[go_sem] theorem T61_size : T61.size = 2 := by kernel_rfl
@[go_sem] theorem T61_bytes : T61.bytes = 16 := by kernel_rfl
@[go_sem] theorem T61_cells : zeroCells T61.zero = some [.d (.int .i64 0), .d (.int .i64 0)] := by kernel_rfl
@[go_sem] theorem T61_zero : wai T61 = some (.d (.agg [(.int .i64 0), (.int .i64 0)])) := by kernel_rfl
@[go_sem] theorem T61_ok : waf T61 = true := by kernel_rfl
noncomputable def T64 : Ty := (wad Tryd.prog 64).getD ⟨.invalid, 0, 0, none⟩
@[go_sem] theorem ty64 : wad Tryd.prog 64 = some T64 := by kernel_rfl
@[go_sem] theorem T64_desc : T64.desc = .func #[3, 22, 22, 3, 3, 26] #[4] false := by kernel_rfl
@[go_sem] theorem T64_size : T64.size = 1 := by kernel_rfl
@[go_sem] theorem T64_bytes : T64.bytes = 8 := by kernel_rfl
@[go_sem] theorem T64_zero : wai T64 = some (.d .nilfunc) := by kernel_rfl
@[go_sem] theorem T64_ok : waf T64 = true := by kernel_rfl
noncomputable def T65 : Ty := (wad Tryd.prog 65).getD ⟨.invalid, 0, 0, none⟩
@[go_sem] theorem ty65 : wad Tryd.prog 65 = some T65 := by kernel_rfl
@[go_sem] theorem T65_desc : T65.desc = .func #[3, 22, 22, 26] #[4] false := by kernel_rfl
@[go_sem] theorem T65_size : T65.size = 1 := by kernel_rfl
@[go_sem] theorem T65_bytes : T65.bytes = 8 := by kernel_rfl
@[go_sem] theorem T65_zero : wai T65 = some (.d .nilfunc) := by kernel_rfl
@[go_sem] theorem T65_ok : waf T65 = true := by kernel_rfl
noncomputable def T71 : Ty := (wad Tryd.prog 71).getD ⟨.invalid, 0, 0, none⟩
@[go_sem] theorem ty71 : wad Tryd.prog 71 = some T71 := by kernel_rfl
noncomputable def fs71 : Array Field := match T71.desc with | .struct fs => fs | _ => #[]
@[go_sem] theorem T71_desc : T71.desc = .struct fs71 := by kernel_rfl
noncomputable def fs71_0 : Field := fs71.getD 0 default
@[go_sem] theorem fs71_at0 : fs71[0]? = some fs71_0 := by kernel_rfl
@[go_sem] theorem fs71_0_type : fs71_0.type = 3 := by kernel_rfl
@[go_sem] theorem fs71_0_off : fs71_0.offset = 0 := by kernel_rfl
@[go_sem] theorem fo71_0 : wau Tryd.prog 71 0 = some (0, 1) := by kernel_rfl
noncomputable def fs71_1 : Field := fs71.getD 1 default
@[go_sem] theorem fs71_at1 : fs71[1]? = some fs71_1 := by kernel_rfl
@[go_sem] theorem fs71_1_type : fs71_1.type = 22 := by kernel_rfl
@[go_sem] theorem fs71_1_off : fs71_1.offset = 1 := by kernel_rfl
@[go_sem] theorem fo71_1 : wau Tryd.prog 71 1 = some (1, 1) := by kernel_rfl
noncomputable def fs71_2 : Field := fs71.getD 2 default
@[go_sem] theorem fs71_at2 : fs71[2]? = some fs71_2 := by kernel_rfl
@[go_sem] theorem fs71_2_type : fs71_2.type = 22 := by kernel_rfl
@[go_sem] theorem fs71_2_off : fs71_2.offset = 2 := by kernel_rfl
@[go_sem] theorem fo71_2 : wau Tryd.prog 71 2 = some (2, 1) := by kernel_rfl
@[go_sem] theorem pl71 : wbq Tryd.prog fs71.toList = some [(0, 1), (1, 1), (2, 1)] := by kernel_rfl
@[go_sem] theorem T71_size : T71.size = 3 := by kernel_rfl
@[go_sem] theorem T71_bytes : T71.bytes = 56 := by kernel_rfl
@[go_sem] theorem T71_cells : zeroCells T71.zero = some [.d (.int .i64 0), .d .nilslice, .d .nilslice] := by kernel_rfl
@[go_sem] theorem T71_zero : wai T71 = some (.d (.agg [(.int .i64 0), .nilslice, .nilslice])) := by kernel_rfl
@[go_sem] theorem T71_ok : waf T71 = true := by kernel_rfl
noncomputable def T72 : Ty := (wad Tryd.prog 72).getD ⟨.invalid, 0, 0, none⟩
@[go_sem] theorem ty72 : wad Tryd.prog 72 = some T72 := by kernel_rfl
noncomputable def fs72 : Array Field := match T72.desc with | .struct fs => fs | _ => #[]
@[go_sem] theorem T72_desc : T72.desc = .struct fs72 := by kernel_rfl
noncomputable def fs72_0 : Field := fs72.getD 0 default
@[go_sem] theorem fs72_at0 : fs72[0]? = some fs72_0 := by kernel_rfl
@[go_sem] theorem fs72_0_type : fs72_0.type = 3 := by kernel_rfl
@[go_sem] theorem fs72_0_off : fs72_0.offset = 0 := by kernel_rfl
@[go_sem] theorem fo72_0 : wau Tryd.prog 72 0 = some (0, 1) := by kernel_rfl
noncomputable def fs72_1 : Field := fs72.getD 1 default
@[go_sem] theorem fs72_at1 : fs72[1]? = some fs72_1 := by kernel_rfl
@[go_sem] theorem fs72_1_type : fs72_1.type = 22 := by kernel_rfl
@[go_sem] theorem fs72_1_off : fs72_1.offset = 1 := by kernel_rfl
@[go_sem] theorem fo72_1 : wau Tryd.prog 72 1 = some (1, 1) := by kernel_rfl
noncomputable def fs72_2 : Field := fs72.getD 2 default
@[go_sem] theorem fs72_at2 : fs72[2]? = some fs72_2 := by kernel_rfl
@[go_sem] theorem fs72_2_type : fs72_2.type = 22 := by kernel_rfl
@[go_sem] theorem fs72_2_off : fs72_2.offset = 2 := by kernel_rfl
@[go_sem] theorem fo72_2 : wau Tryd.prog 72 2 = some (2, 1) := by kernel_rfl
@[go_sem] theorem pl72 : wbq Tryd.prog fs72.toList = some [(0, 1), (1, 1), (2, 1)] := by kernel_rfl
@[go_sem] theorem T72_size : T72.size = 3 := by kernel_rfl
@[go_sem] theorem T72_bytes : T72.bytes = 56 := by kernel_rfl
@[go_sem] theorem T72_cells : zeroCells T72.zero = some [.d (.int .i64 0), .d .nilslice, .d .nilslice] := by kernel_rfl
@[go_sem] theorem T72_zero : wai T72 = some (.d (.agg [(.int .i64 0), .nilslice, .nilslice])) := by kernel_rfl
@[go_sem] theorem T72_ok : waf T72 = true := by kernel_rfl
noncomputable def T73 : Ty := (wad Tryd.prog 73).getD ⟨.invalid, 0, 0, none⟩
@[go_sem] theorem ty73 : wad Tryd.prog 73 = some T73 := by kernel_rfl
@[go_sem] theorem T73_desc : T73.desc = .func #[74] #[26, 4] false := by kernel_rfl
@[go_sem] theorem T73_size : T73.size = 1 := by kernel_rfl
@[go_sem] theorem T73_bytes : T73.bytes = 8 := by kernel_rfl
@[go_sem] theorem T73_zero : wai T73 = some (.d .nilfunc) := by kernel_rfl
@[go_sem] theorem T73_ok : waf T73 = true := by kernel_rfl
noncomputable def T74 : Ty := (wad Tryd.prog 74).getD ⟨.invalid, 0, 0, none⟩
@[go_sem] theorem ty74 : wad Tryd.prog 74 = some T74 := by kernel_rfl
@[go_sem] theorem T74_desc : T74.desc = .func #[3, 3] #[4] false := by kernel_rfl
@[go_sem] theorem T74_size : T74.size = 1 := by kernel_rfl
@[go_sem] theorem T74_bytes : T74.bytes = 8 := by kernel_rfl
@[go_sem] theorem T74_zero : wai T74 = some (.d .nilfunc) := by kernel_rfl
@[go_sem] theorem T74_ok : waf T74 = true := by kernel_rfl
noncomputable def T76 : Ty := (wad Tryd.prog 76).getD ⟨.invalid, 0, 0, none⟩
@[go_sem] theorem ty76 : wad Tryd.prog 76 = some T76 := by kernel_rfl
@[go_sem] theorem T76_desc : T76.desc = .slice 120 := by kernel_rfl
@[go_sem] theorem es76 : wby Tryd.prog 76 = some 3 := by kernel_rfl
@[go_sem] theorem T76_size : T76.size = 1 := by kernel_rfl
@[go_sem] theorem T76_bytes : T76.bytes = 24 := by kernel_rfl
@[go_sem] theorem T76_zero : wai T76 = some (.d .nilslice) := by kernel_rfl
@[go_sem] theorem T76_ok : waf T76 = true := by kernel_rfl
noncomputable def T77 : Ty := (wad Tryd.prog 77).getD ⟨.invalid, 0, 0, none⟩
@[go_sem] theorem ty77 : wad Tryd.prog 77 = some T77 := by kernel_rfl
noncomputable def fs77 : Array Field := match T77.desc with | .struct fs => fs | _ => #[]
@[go_sem] theorem T77_desc : T77.desc = .struct fs77 := by kernel_rfl
noncomputable def fs77_0 : Field := fs77.getD 0 default
@[go_sem] theorem fs77_at0 : fs77[0]? = some fs77_0 := by kernel_rfl
@[go_sem] theorem fs77_0_type : fs77_0.type = 26 := by kernel_rfl
@[go_sem] theorem fs77_0_off : fs77_0.offset = 0 := by kernel_rfl
@[go_sem] theorem fo77_0 : wau Tryd.prog 77 0 = some (0, 1) := by kernel_rfl
noncomputable def fs77_1 : Field := fs77.getD 1 default
@[go_sem] theorem fs77_at1 : fs77[1]? = some fs77_1 := by kernel_rfl
@[go_sem] theorem fs77_1_type : fs77_1.type = 26 := by kernel_rfl
@[go_sem] theorem fs77_1_off : fs77_1.offset = 1 := by kernel_rfl
@[go_sem] theorem fo77_1 : wau Tryd.prog 77 1 = some (1, 1) := by kernel_rfl
noncomputable def fs77_2 : Field := fs77.getD 2 default
@[go_sem] theorem fs77_at2 : fs77[2]? = some fs77_2 := by kernel_rfl
@[go_sem] theorem fs77_2_type : fs77_2.type = 76 := by kernel_rfl
@[go_sem] theorem fs77_2_off : fs77_2.offset = 2 := by kernel_rfl
@[go_sem] theorem fo77_2 : wau Tryd.prog 77 2 = some (2, 1) := by kernel_rfl
@[go_sem] theorem pl77 : wbq Tryd.prog fs77.toList = some [(0, 1), (1, 1), (2, 1)] := by kernel_rfl
@[go_sem] theorem T77_size : T77.size = 3 := by kernel_rfl
@[go_sem] theorem T77_bytes : T77.bytes = 72 := by kernel_rfl
@[go_sem] theorem T77_cells : zeroCells T77.zero = some [.d .nilslice, .d .nilslice, .d .nilslice] := by kernel_rfl
@[go_sem] theorem T77_zero : wai T77 = some (.d (.agg [.nilslice, .nilslice, .nilslice])) := by kernel_rfl
@[go_sem] theorem T77_ok : waf T77 = true := by kernel_rfl
noncomputable def T78 : Ty := (wad Tryd.prog 78).getD ⟨.invalid, 0, 0, none⟩
@[go_sem] theorem ty78 : wad Tryd.prog 78 = some T78 := by kernel_rfl
noncomputable def fs78 : Array Field := match T78.desc with | .struct fs => fs | _ => #[]
@[go_sem] theorem T78_desc : T78.desc = .struct fs78 := by kernel_rfl
noncomputable def fs78_0 : Field := fs78.getD 0 default
@[go_sem] theorem fs78_at0 : fs78[0]? = some fs78_0 := by kernel_rfl
@[go_sem] theorem fs78_0_type : fs78_0.type = 26 := by kernel_rfl
@[go_sem] theorem fs78_0_off : fs78_0.offset = 0 := by kernel_rfl
@[go_sem] theorem fo78_0 : wau Tryd.prog 78 0 = some (0, 1) := by kernel_rfl
noncomputable def fs78_1 : Field := fs78.getD 1 default
@[go_sem] theorem fs78_at1 : fs78[1]? = some fs78_1 := by kernel_rfl
@[go_sem] theorem fs78_1_type : fs78_1.type = 26 := by kernel_rfl
@[go_sem] theorem fs78_1_off : fs78_1.offset = 1 := by kernel_rfl
@[go_sem] theorem fo78_1 : wau Tryd.prog 78 1 = some (1, 1) := by kernel_rfl
noncomputable def fs78_2 : Field := fs78.getD 2 default
@[go_sem] theorem fs78_at2 : fs78[2]? = some fs78_2 := by kernel_rfl
@[go_sem] theorem fs78_2_type : fs78_2.type = 76 := by kernel_rfl
@[go_sem] theorem fs78_2_off : fs78_2.offset = 2 := by kernel_rfl
@[go_sem] theorem fo78_2 : wau Tryd.prog 78 2 = some (2, 1) := by kernel_rfl
@[go_sem] theorem pl78 : wbq Tryd.prog fs78.toList = some [(0, 1), (1, 1), (2, 1)] := by kernel_rfl
@[go_sem] theorem T78_size : T78.size = 3 := by kernel_rfl
@[go_sem] theorem T78_bytes : T78.bytes = 72 := by kernel_rfl
@[go_sem] theorem T78_cells : zeroCells T78.zero = some [.d .nilslice, .d .nilslice, .d .nilslice] := by kernel_rfl
@[go_sem] theorem T78_zero : wai T78 = some (.d (.agg [.nilslice, .nilslice, .nilslice])) := by kernel_rfl
@[go_sem] theorem T78_ok : waf T78 = true := by kernel_rfl
noncomputable def T79 : Ty := (wad Tryd.prog 79).getD ⟨.invalid, 0, 0, none⟩
@[go_sem] theorem ty79 : wad Tryd.prog 79 = some T79 := by kernel_rfl
@[go_sem] theorem T79_desc : T79.desc = .slice 26 := by kernel_rfl
@[go_sem] theorem es79 : wby Tryd.prog 79 = some 1 := by kernel_rfl
@[go_sem] theorem T79_size : T79.size = 1 := by kernel_rfl
@[go_sem] theorem T79_bytes : T79.bytes = 24 := by kernel_rfl
@[go_sem] theorem T79_zero : wai T79 = some (.d .nilslice) := by kernel_rfl
@[go_sem] theorem T79_ok : waf T79 = true := by kernel_rfl
noncomputable def T80 : Ty := (wad Tryd.prog 80).getD ⟨.invalid, 0, 0, none⟩
@[go_sem] theorem ty80 : wad Tryd.prog 80 = some T80 := by kernel_rfl
noncomputable def fs80 : Array Field := match T80.desc with | .struct fs => fs | _ => #[]
@[go_sem] theorem T80_desc : T80.desc = .struct fs80 := by kernel_rfl
noncomputable def fs80_0 : Field := fs80.getD 0 default
@[go_sem] theorem fs80_at0 : fs80[0]? = some fs80_0 := by kernel_rfl
@[go_sem] theorem fs80_0_type : fs80_0.type = 3 := by kernel_rfl
@[go_sem] theorem fs80_0_off : fs80_0.offset = 0 := by kernel_rfl
@[go_sem] theorem fo80_0 : wau Tryd.prog 80 0 = some (0, 1) := by kernel_rfl
noncomputable def fs80_1 : Field := fs80.getD 1 default
@[go_sem] theorem fs80_at1 : fs80[1]? = some fs80_1 := by kernel_rfl
@[go_sem] theorem fs80_1_type : fs80_1.type = 22 := by kernel_rfl
@[go_sem] theorem fs80_1_off : fs80_1.offset = 1 := by kernel_rfl
@[go_sem] theorem fo80_1 : wau Tryd.prog 80 1 = some (1, 1) := by kernel_rfl
noncomputable def fs80_2 : Field := fs80.getD 2 default
@[go_sem] theorem fs80_at2 : fs80[2]? = some fs80_2 := by kernel_rfl
@[go_sem] theorem fs80_2_type : fs80_2.type = 78 := by kernel_rfl
@[go_sem] theorem fs80_2_off : fs80_2.offset = 2 := by kernel_rfl
@[go_sem] theorem fo80_2 : wau Tryd.prog 80 2 = some (2, 3) := by kernel_rfl
noncomputable def fs80_3 : Field := fs80.getD 3 default
@[go_sem] theorem fs80_at3 : fs80[3]? = some fs80_3 := by kernel_rfl
@[go_sem] theorem fs80_3_type : fs80_3.type = 79 := by kernel_rfl
@[go_sem] theorem fs80_3_off : fs80_3.offset = 5 := by kernel_rfl
@[go_sem] theorem fo80_3 : wau Tryd.prog 80 3 = some (5, 1) := by kernel_rfl
noncomputable def fs80_4 : Field := fs80.getD 4 default
@[go_sem] theorem fs80_at4 : fs80[4]? = some fs80_4 := by kernel_rfl
@[go_sem] theorem fs80_4_type : fs80_4.type = 26 := by kernel_rfl
@[go_sem] theorem fs80_4_off : fs80_4.offset = 6 := by kernel_rfl
@[go_sem] theorem fo80_4 : wau Tryd.prog 80 4 = some (6, 1) := by kernel_rfl
noncomputable def fs80_5 : Field := fs80.getD 5 default
@[go_sem] theorem fs80_at5 : fs80[5]? = some fs80_5 := by kernel_rfl
@[go_sem] theorem fs80_5_type : fs80_5.type = 32 := by kernel_rfl
@[go_sem] theorem fs80_5_off : fs80_5.offset = 7 := by kernel_rfl
@[go_sem] theorem fo80_5 : wau Tryd.prog 80 5 = some (7, 1) := by kernel_rfl
@[go_sem] theorem pl80 : wbq Tryd.prog fs80.toList = some [(0, 1), (1, 1), (2, 3), (5, 1), (6, 1), (7, 1)] := by kernel_rfl
@[go_sem] theorem T80_size : T80.size = 8 := by kernel_rfl
@[go_sem] theorem T80_bytes : T80.bytes = 176 := by kernel_rfl
@[go_sem] theorem T80_cells : zeroCells T80.zero = some [.d (.int .i64 0), .d .nilslice, .d .nilslice, .d .nilslice, .d .nilslice, .d .nilslice, .d .nilslice, .d .nilslice] := by kernel_rfl
@[go_sem] theorem T80_zero : wai T80 = some (.d (.agg [(.int .i64 0), .nilslice, .nilslice, .nilslice, .nilslice, .nilslice, .nilslice, .nilslice])) := by kernel_rfl
@[go_sem] theorem T80_ok : waf T80 = true := by kernel_rfl
noncomputable def T84 : Ty := (wad Tryd.prog 84).getD ⟨.invalid, 0, 0, none⟩
@[go_sem] theorem ty84 : wad Tryd.prog 84 = some T84 := by kernel_rfl
@[go_sem] theorem T84_desc : T84.desc = .func #[22, 3, 3] #[26] false := by kernel_rfl
@[go_sem] theorem T84_size : T84.size = 1 := by kernel_rfl
@[go_sem] theorem T84_bytes : T84.bytes = 8 := by kernel_rfl
@[go_sem] theorem T84_zero : wai T84 = some (.d .nilfunc) := by kernel_rfl
@[go_sem] theorem T84_ok : waf T84 = true := by kernel_rfl
noncomputable def T88 : Ty := (wad Tryd.prog 88).getD ⟨.invalid, 0, 0, none⟩
@[go_sem] theorem ty88 : wad Tryd.prog 88 = some T88 := by kernel_rfl
@[go_sem] theorem T88_desc : T88.desc = .pointer 92 := by kernel_rfl
@[go_sem] theorem T88_size : T88.size = 1 := by kernel_rfl
@[go_sem] theorem T88_bytes : T88.bytes = 8 := by kernel_rfl
@[go_sem] theorem T88_zero : wai T88 = some (.d .nilptr) := by kernel_rfl
@[go_sem] theorem T88_ok : waf T88 = true := by kernel_rfl
noncomputable def T89 : Ty := (wad Tryd.prog 89).getD ⟨.invalid, 0, 0, none⟩
@[go_sem] theorem ty89 : wad Tryd.prog 89 = some T89 := by kernel_rfl
@[go_sem] theorem T89_desc : T89.desc = .map 121 3 := by kernel_rfl
@[go_sem] theorem T89_size : T89.size = 1 := by kernel_rfl
@[go_sem] theorem T89_bytes : T89.bytes = 8 := by kernel_rfl
@[go_sem] theorem T89_zero : wai T89 = some (.d .nilmap) := by kernel_rfl
@[go_sem] theorem T89_ok : waf T89 = true := by kernel_rfl
noncomputable def T90 : Ty := (wad Tryd.prog 90).getD ⟨.invalid, 0, 0, none⟩
@[go_sem] theorem ty90 : wad Tryd.prog 90 = some T90 := by kernel_rfl
@[go_sem] theorem T90_desc : T90.desc = .map 9 3 := by kernel_rfl
@[go_sem] theorem T90_size : T90.size = 1 := by kernel_rfl
@[go_sem] theorem T90_bytes : T90.bytes = 8 := by kernel_rfl
@[go_sem] theorem T90_zero : wai T90 = some (.d .nilmap) := by kernel_rfl
@[go_sem] theorem T90_ok : waf T90 = true := by kernel_rfl
noncomputable def T91 : Ty := (wad Tryd.prog 91).getD ⟨.invalid, 0, 0, none⟩
@[go_sem] theorem ty91 : wad Tryd.prog 91 = some T91 := by kernel_rfl
noncomputable def fs91 : Array Field := match T91.desc with | .struct fs => fs | _ => #[]
@[go_sem] theorem T91_desc : T91.desc = .struct fs91 := by kernel_rfl
noncomputable def fs91_0 : Field := fs91.getD 0 default
@[go_sem] theorem fs91_at0 : fs91[0]? = some fs91_0 := by kernel_rfl
@[go_sem] theorem fs91_0_type : fs91_0.type = 3 := by kernel_rfl
@[go_sem] theorem fs91_0_off : fs91_0.offset = 0 := by kernel_rfl
@[go_sem] theorem fo91_0 : wau Tryd.prog 91 0 = some (0, 1) := by kernel_rfl
noncomputable def fs91_1 : Field := fs91.getD 1 default
@[go_sem] theorem fs91_at1 : fs91[1]? = some fs91_1 := by kernel_rfl
@[go_sem] theorem fs91_1_type : fs91_1.type = 22 := by kernel_rfl
@[go_sem] theorem fs91_1_off : fs91_1.offset = 1 := by kernel_rfl
@[go_sem] theorem fo91_1 : wau Tryd.prog 91 1 = some (1, 1) := by kernel_rfl
noncomputable def fs91_2 : Field := fs91.getD 2 default
@[go_sem] theorem fs91_at2 : fs91[2]? = some fs91_2 := by kernel_rfl
@[go_sem] theorem fs91_2_type : fs91_2.type = 89 := by kernel_rfl
@[go_sem] theorem fs91_2_off : fs91_2.offset = 2 := by kernel_rfl
@[go_sem] theorem fo91_2 : wau Tryd.prog 91 2 = some (2, 1) := by kernel_rfl
noncomputable def fs91_3 : Field := fs91.getD 3 default
@[go_sem] theorem fs91_at3 : fs91[3]? = some fs91_3 := by kernel_rfl
@[go_sem] theorem fs91_3_type : fs91_3.type = 90 := by kernel_rfl
@[go_sem] theorem fs91_3_off : fs91_3.offset = 3 := by kernel_rfl
@[go_sem] theorem fo91_3 : wau Tryd.prog 91 3 = some (3, 1) := by kernel_rfl
noncomputable def fs91_4 : Field := fs91.getD 4 default
@[go_sem] theorem fs91_at4 : fs91[4]? = some fs91_4 := by kernel_rfl
@[go_sem] theorem fs91_4_type : fs91_4.type = 32 := by kernel_rfl
@[go_sem] theorem fs91_4_off : fs91_4.offset = 4 := by kernel_rfl
@[go_sem] theorem fo91_4 : wau Tryd.prog 91 4 = some (4, 1) := by kernel_rfl
@[go_sem] theorem pl91 : wbq Tryd.prog fs91.toList = some [(0, 1), (1, 1), (2, 1), (3, 1), (4, 1)] := by kernel_rfl
@[go_sem] theorem T91_size : T91.size = 5 := by kernel_rfl
@[go_sem] theorem T91_bytes : T91.bytes = 72 := by kernel_rfl
@[go_sem] theorem T91_cells : zeroCells T91.zero = some [.d (.int .i64 0), .d .nilslice, .d .nilmap, .d .nilmap, .d .nilslice] := by kernel_rfl
@[go_sem] theorem T91_zero : wai T91 = some (.d (.agg [(.int .i64 0), .nilslice, .nilmap, .nilmap, .nilslice])) := by kernel_rfl
@[go_sem] theorem T91_ok : waf T91 = true := by kernel_rfl
noncomputable def T92 : Ty := (wad Tryd.prog 92).getD ⟨.invalid, 0, 0, none⟩
@[go_sem] theorem ty92 : wad Tryd.prog 92 = some T92 := by kernel_rfl
noncomputable def fs92 : Array Field := match T92.desc with | .struct fs => fs | _ => #[]
@[go_sem] theorem T92_desc : T92.desc = .struct fs92 := by kernel_rfl
noncomputable def fs92_0 : Field := fs92.getD 0 default
@[go_sem] theorem fs92_at0 : fs92[0]? = some fs92_0 := by kernel_rfl
@[go_sem] theorem fs92_0_type : fs92_0.type = 3 := by kernel_rfl
@[go_sem] theorem fs92_0_off : fs92_0.offset = 0 := by kernel_rfl
@[go_sem] theorem fo92_0 : wau Tryd.prog 92 0 = some (0, 1) := by kernel_rfl
noncomputable def fs92_1 : Field := fs92.getD 1 default
@[go_sem] theorem fs92_at1 : fs92[1]? = some fs92_1 := by kernel_rfl
@[go_sem] theorem fs92_1_type : fs92_1.type = 22 := by kernel_rfl
@[go_sem] theorem fs92_1_off : fs92_1.offset = 1 := by kernel_rfl
@[go_sem] theorem fo92_1 : wau Tryd.prog 92 1 = some (1, 1) := by kernel_rfl
noncomputable def fs92_2 : Field := fs92.getD 2 default
@[go_sem] theorem fs92_at2 : fs92[2]? = some fs92_2 := by kernel_rfl
@[go_sem] theorem fs92_2_type : fs92_2.type = 89 := by kernel_rfl
@[go_sem] theorem fs92_2_off : fs92_2.offset = 2 := by kernel_rfl
@[go_sem] theorem fo92_2 : wau Tryd.prog 92 2 = some (2, 1) := by kernel_rfl
noncomputable def fs92_3 : Field := fs92.getD 3 default
@[go_sem] theorem fs92_at3 : fs92[3]? = some fs92_3 := by kernel_rfl
@[go_sem] theorem fs92_3_type : fs92_3.type = 90 := by kernel_rfl
@[go_sem] theorem fs92_3_off : fs92_3.offset = 3 := by kernel_rfl
@[go_sem] theorem fo92_3 : wau Tryd.prog 92 3 = some (3, 1) := by kernel_rfl
noncomputable def fs92_4 : Field := fs92.getD 4 default
@[go_sem] theorem fs92_at4 : fs92[4]? = some fs92_4 := by kernel_rfl
@[go_sem] theorem fs92_4_type : fs92_4.type = 32 := by kernel_rfl
@[go_sem] theorem fs92_4_off : fs92_4.offset = 4 := by kernel_rfl
@[go_sem] theorem fo92_4 : wau Tryd.prog 92 4 = some (4, 1) := by kernel_rfl
@[go_sem] theorem pl92 : wbq Tryd.prog fs92.toList = some [(0, 1), (1, 1), (2, 1), (3, 1), (4, 1)] := by kernel_rfl
@[go_sem] theorem T92_size : T92.size = 5 := by kernel_rfl
@[go_sem] theorem T92_bytes : T92.bytes = 72 := by kernel_rfl
@[go_sem] theorem T92_cells : zeroCells T92.zero = some [.d (.int .i64 0), .d .nilslice, .d .nilmap, .d .nilmap, .d .nilslice] := by kernel_rfl
@[go_sem] theorem T92_zero : wai T92 = some (.d (.agg [(.int .i64 0), .nilslice, .nilmap, .nilmap, .nilslice])) := by kernel_rfl
@[go_sem] theorem T92_ok : waf T92 = true := by kernel_rfl
noncomputable def T93 : Ty := (wad Tryd.prog 93).getD ⟨.invalid, 0, 0, none⟩
@[go_sem] theorem ty93 : wad Tryd.prog 93 = some T93 := by kernel_rfl
@[go_sem] theorem T93_desc : T93.desc = .func #[3, 95] #[3] false := by kernel_rfl
@[go_sem] theorem T93_size : T93.size = 1 := by kernel_rfl
@[go_sem] theorem T93_bytes : T93.bytes = 8 := by kernel_rfl
@[go_sem] theorem T93_zero : wai T93 = some (.d .nilfunc) := by kernel_rfl
@[go_sem] theorem T93_ok : waf T93 = true := by kernel_rfl
noncomputable def T94 : Ty := (wad Tryd.prog 94).getD ⟨.invalid, 0, 0, none⟩
@[go_sem] theorem ty94 : wad Tryd.prog 94 = some T94 := by kernel_rfl
@[go_sem] theorem T94_desc : T94.desc = .int .u32 := by kernel_rfl
@[go_sem] theorem T94_size : T94.size = 1 := by kernel_rfl
@[go_sem] theorem T94_bytes : T94.bytes = 4 := by kernel_rfl
@[go_sem] theorem T94_zero : wai T94 = some (.d (.int .u32 0)) := by kernel_rfl
@[go_sem] theorem T94_ok : waf T94 = true := by kernel_rfl
noncomputable def T95 : Ty := (wad Tryd.prog 95).getD ⟨.invalid, 0, 0, none⟩
@[go_sem] theorem ty95 : wad Tryd.prog 95 = some T95 := by kernel_rfl
@[go_sem] theorem T95_desc : T95.desc = .int .u32 := by kernel_rfl
@[go_sem] theorem T95_size : T95.size = 1 := by kernel_rfl
@[go_sem] theorem T95_bytes : T95.bytes = 4 := by kernel_rfl
@[go_sem] theorem T95_zero : wai T95 = some (.d (.int .u32 0)) := by kernel_rfl
@[go_sem] theorem T95_ok : waf T95 = true := by kernel_rfl
noncomputable def T97 : Ty := (wad Tryd.prog 97).getD ⟨.invalid, 0, 0, none⟩
@[go_sem] theorem ty97 : wad Tryd.prog 97 = some T97 := by kernel_rfl
@[go_sem] theorem T97_desc : T97.desc = .func #[3] #[32] false := by kernel_rfl
@[go_sem] theorem T97_size : T97.size = 1 := by kernel_rfl
@[go_sem] theorem T97_bytes : T97.bytes = 8 := by kernel_rfl
@[go_sem] theorem T97_zero : wai T97 = some (.d .nilfunc) := by kernel_rfl
@[go_sem] theorem T97_ok : waf T97 = true := by kernel_rfl
noncomputable def T98 : Ty := (wad Tryd.prog 98).getD ⟨.invalid, 0, 0, none⟩
@[go_sem] theorem ty98 : wad Tryd.prog 98 = some T98 := by kernel_rfl
@[go_sem] theorem T98_desc : T98.desc = .func #[3, 22] #[26] false := by kernel_rfl
@[go_sem] theorem T98_size : T98.size = 1 := by kernel_rfl
@[go_sem] theorem T98_bytes : T98.bytes = 8 := by kernel_rfl
@[go_sem] theorem T98_zero : wai T98 = some (.d .nilfunc) := by kernel_rfl
@[go_sem] theorem T98_ok : waf T98 = true := by kernel_rfl
noncomputable def T99 : Ty := (wad Tryd.prog 99).getD ⟨.invalid, 0, 0, none⟩
@[go_sem] theorem ty99 : wad Tryd.prog 99 = some T99 := by kernel_rfl
@[go_sem] theorem T99_desc : T99.desc = .func #[3, 22, 22] #[26, 4] false := by kernel_rfl
@[go_sem] theorem T99_size : T99.size = 1 := by kernel_rfl
@[go_sem] theorem T99_bytes : T99.bytes = 8 := by kernel_rfl
@[go_sem] theorem T99_zero : wai T99 = some (.d .nilfunc) := by kernel_rfl
@[go_sem] theorem T99_ok : waf T99 = true := by kernel_rfl
noncomputable def T100 : Ty := (wad Tryd.prog 100).getD ⟨.invalid, 0, 0, none⟩
@[go_sem] theorem ty100 : wad Tryd.prog 100 = some T100 := by kernel_rfl
@[go_sem] theorem T100_desc : T100.desc = .pointer 102 := by kernel_rfl
@[go_sem] theorem T100_size : T100.size = 1 := by kernel_rfl
@[go_sem] theorem T100_bytes : T100.bytes = 8 := by kernel_rfl
@[go_sem] theorem T100_zero : wai T100 = some (.d .nilptr) := by kernel_rfl
@[go_sem] theorem T100_ok : waf T100 = true := by kernel_rfl
noncomputable def T101 : Ty := (wad Tryd.prog 101).getD ⟨.invalid, 0, 0, none⟩
@[go_sem] theorem ty101 : wad Tryd.prog 101 = some T101 := by kernel_rfl
noncomputable def fs101 : Array Field := match T101.desc with | .struct fs => fs | _ => #[]
@[go_sem] theorem T101_desc : T101.desc = .struct fs101 := by kernel_rfl
noncomputable def fs101_0 : Field := fs101.getD 0 default
@[go_sem] theorem fs101_at0 : fs101[0]? = some fs101_0 := by kernel_rfl
@[go_sem] theorem fs101_0_type : fs101_0.type = 3 := by kernel_rfl
@[go_sem] theorem fs101_0_off : fs101_0.offset = 0 := by kernel_rfl
@[go_sem] theorem fo101_0 : wau Tryd.prog 101 0 = some (0, 1) := by kernel_rfl
noncomputable def fs101_1 : Field := fs101.getD 1 default
@[go_sem] theorem fs101_at1 : fs101[1]? = some fs101_1 := by kernel_rfl
@[go_sem] theorem fs101_1_type : fs101_1.type = 22 := by kernel_rfl
@[go_sem] theorem fs101_1_off : fs101_1.offset = 1 := by kernel_rfl
@[go_sem] theorem fo101_1 : wau Tryd.prog 101 1 = some (1, 1) := by kernel_rfl
noncomputable def fs101_2 : Field := fs101.getD 2 default
@[go_sem] theorem fs101_at2 : fs101[2]? = some fs101_2 := by kernel_rfl
@[go_sem] theorem fs101_2_type : fs101_2.type = 22 := by kernel_rfl
@[go_sem] theorem fs101_2_off : fs101_2.offset = 2 := by kernel_rfl
@[go_sem] theorem fo101_2 : wau Tryd.prog 101 2 = some (2, 1) := by kernel_rfl
noncomputable def fs101_3 : Field := fs101.getD 3 default
@[go_sem] theorem fs101_at3 : fs101[3]? = some fs101_3 := by kernel_rfl
@[go_sem] theorem fs101_3_type : fs101_3.type = 78 := by kernel_rfl
@[go_sem] theorem fs101_3_off : fs101_3.offset = 3 := by kernel_rfl
@[go_sem] theorem fo101_3 : wau Tryd.prog 101 3 = some (3, 3) := by kernel_rfl
@[go_sem] theorem pl101 : wbq Tryd.prog fs101.toList = some [(0, 1), (1, 1), (2, 1), (3, 3)] := by kernel_rfl
@[go_sem] theorem T101_size : T101.size = 6 := by kernel_rfl
@[go_sem] theorem T101_bytes : T101.bytes = 128 := by kernel_rfl
@[go_sem] theorem T101_cells : zeroCells T101.zero = some [.d (.int .i64 0), .d .nilslice, .d .nilslice, .d .nilslice, .d .nilslice, .d .nilslice] := by kernel_rfl
@[go_sem] theorem T101_zero : wai T101 = some (.d (.agg [(.int .i64 0), .nilslice, .nilslice, .nilslice, .nilslice, .nilslice])) := by kernel_rfl
@[go_sem] theorem T101_ok : waf T101 = true := by kernel_rfl
noncomputable def T102 : Ty := (wad Tryd.prog 102).getD ⟨.invalid, 0, 0, none⟩
@[go_sem] theorem ty102 : wad Tryd.prog 102 = some T102 := by kernel_rfl
noncomputable def fs102 : Array Field := match T102.desc with | .struct fs => fs | _ => #[]
@[go_sem] theorem T102_desc : T102.desc = .struct fs102 := by kernel_rfl
noncomputable def fs102_0 : Field := fs102.getD 0 default
@[go_sem] theorem fs102_at0 : fs102[0]? = some fs102_0 := by kernel_rfl
@[go_sem] theorem fs102_0_type : fs102_0.type = 3 := by kernel_rfl
@[go_sem] theorem fs102_0_off : fs102_0.offset = 0 := by kernel_rfl
@[go_sem] theorem fo102_0 : wau Tryd.prog 102 0 = some (0, 1) := by kernel_rfl
noncomputable def fs102_1 : Field := fs102.getD 1 default
@[go_sem] theorem fs102_at1 : fs102[1]? = some fs102_1 := by kernel_rfl
@[go_sem] theorem fs102_1_type : fs102_1.type = 22 := by kernel_rfl
@[go_sem] theorem fs102_1_off : fs102_1.offset = 1 := by kernel_rfl
@[go_sem] theorem fo102_1 : wau Tryd.prog 102 1 = some (1, 1) := by kernel_rfl
noncomputable def fs102_2 : Field := fs102.getD 2 default
@[go_sem] theorem fs102_at2 : fs102[2]? = some fs102_2 := by kernel_rfl
@[go_sem] theorem fs102_2_type : fs102_2.type = 22 := by kernel_rfl
@[go_sem] theorem fs102_2_off : fs102_2.offset = 2 := by kernel_rfl
@[go_sem] theorem fo102_2 : wau Tryd.prog 102 2 = some (2, 1) := by kernel_rfl
noncomputable def fs102_3 : Field := fs102.getD 3 default
@[go_sem] theorem fs102_at3 : fs102[3]? = some fs102_3 := by kernel_rfl
@[go_sem] theorem fs102_3_type : fs102_3.type = 78 := by kernel_rfl
@[go_sem] theorem fs102_3_off : fs102_3.offset = 3 := by kernel_rfl
@[go_sem] theorem fo102_3 : wau Tryd.prog 102 3 = some (3, 3) := by kernel_rfl
@[go_sem] theorem pl102 : wbq Tryd.prog fs102.toList = some [(0, 1), (1, 1), (2, 1), (3, 3)] := by kernel_rfl
@[go_sem] theorem T102_size : T102.size = 6 := by kernel_rfl
@[go_sem] theorem T102_bytes : T102.bytes = 128 := by kernel_rfl
@[go_sem] theorem T102_cells : zeroCells T102.zero = some [.d (.int .i64 0), .d .nilslice, .d .nilslice, .d .nilslice, .d .nilslice, .d .nilslice] := by kernel_rfl
@[go_sem] theorem T102_zero : wai T102 = some (.d (.agg [(.int .i64 0), .nilslice, .nilslice, .nilslice, .nilslice, .nilslice])) := by kernel_rfl
@[go_sem] theorem T102_ok : waf T102 = true := by kernel_rfl
noncomputable def T103 : Ty := (wad Tryd.prog 103).getD ⟨.invalid, 0, 0, none⟩
@[go_sem] theorem ty103 : wad Tryd.prog 103 = some T103 := by kernel_rfl
@[go_sem] theorem T103_desc : T103.desc = .func #[3, 3, 3] #[26, 4] false := by kernel_rfl
@[go_sem] theorem T103_size : T103.size = 1 := by kernel_rfl
@[go_sem] theorem T103_bytes : T103.bytes = 8 := by kernel_rfl
@[go_sem] theorem T103_zero : wai T103 = some (.d .nilfunc) := by kernel_rfl
@[go_sem] theorem T103_ok : waf T103 = true := by kernel_rfl
noncomputable def T104 : Ty := (wad Tryd.prog 104).getD ⟨.invalid, 0, 0, none⟩
@[go_sem] theorem ty104 : wad Tryd.prog 104 = some T104 := by kernel_rfl
@[go_sem] theorem T104_desc : T104.desc = .func #[22, 26] #[3] false := by kernel_rfl
@[go_sem] theorem T104_size : T104.size = 1 := by kernel_rfl
@[go_sem] theorem T104_bytes : T104.bytes = 8 := by kernel_rfl
@[go_sem] theorem T104_zero : wai T104 = some (.d .nilfunc) := by kernel_rfl
@[go_sem] theorem T104_ok : waf T104 = true := by kernel_rfl
noncomputable def T105 : Ty := (wad Tryd.prog 105).getD ⟨.invalid, 0, 0, none⟩
@[go_sem] theorem ty105 : wad Tryd.prog 105 = some T105 := by kernel_rfl
@[go_sem] theorem T105_desc : T105.desc = .func #[3] #[4] false := by kernel_rfl
@[go_sem] theorem T105_size : T105.size = 1 := by kernel_rfl
@[go_sem] theorem T105_bytes : T105.bytes = 8 := by kernel_rfl
@[go_sem] theorem T105_zero : wai T105 = some (.d .nilfunc) := by kernel_rfl
@[go_sem] theorem T105_ok : waf T105 = true := by kernel_rfl
noncomputable def T106 : Ty := (wad Tryd.prog 106).getD ⟨.invalid, 0, 0, none⟩
@[go_sem] theorem ty106 : wad Tryd.prog 106 = some T106 := by kernel_rfl
@[go_sem] theorem T106_desc : T106.desc = .func #[32, 108] #[4] false := by kernel_rfl
@[go_sem] theorem T106_size : T106.size = 1 := by kernel_rfl
@[go_sem] theorem T106_bytes : T106.bytes = 8 := by kernel_rfl
@[go_sem] theorem T106_zero : wai T106 = some (.d .nilfunc) := by kernel_rfl
@[go_sem] theorem T106_ok : waf T106 = true := by kernel_rfl
noncomputable def T107 : Ty := (wad Tryd.prog 107).getD ⟨.invalid, 0, 0, none⟩
@[go_sem] theorem ty107 : wad Tryd.prog 107 = some T107 := by kernel_rfl
@[go_sem] theorem T107_desc : T107.desc = .func #[3, 32, 37] #[4] false := by kernel_rfl
@[go_sem] theorem T107_size : T107.size = 1 := by kernel_rfl
@[go_sem] theorem T107_bytes : T107.bytes = 8 := by kernel_rfl
@[go_sem] theorem T107_zero : wai T107 = some (.d .nilfunc) := by kernel_rfl
@[go_sem] theorem T107_ok : waf T107 = true := by kernel_rfl
noncomputable def T108 : Ty := (wad Tryd.prog 108).getD ⟨.invalid, 0, 0, none⟩
@[go_sem] theorem ty108 : wad Tryd.prog 108 = some T108 := by kernel_rfl
@[go_sem] theorem T108_desc : T108.desc = .func #[37] #[4] false := by kernel_rfl
@[go_sem] theorem T108_size : T108.size = 1 := by kernel_rfl
@[go_sem] theorem T108_bytes : T108.bytes = 8 := by kernel_rfl
@[go_sem] theorem T108_zero : wai T108 = some (.d .nilfunc) := by kernel_rfl
@[go_sem] theorem T108_ok : waf T108 = true := by kernel_rfl
noncomputable def T109 : Ty := (wad Tryd.prog 109).getD ⟨.invalid, 0, 0, none⟩
@[go_sem] theorem ty109 : wad Tryd.prog 109 = some T109 := by kernel_rfl
@[go_sem] theorem T109_desc : T109.desc = .func #[26, 105] #[3] false := by kernel_rfl
@[go_sem] theorem T109_size : T109.size = 1 := by kernel_rfl
@[go_sem] theorem T109_bytes : T109.bytes = 8 := by kernel_rfl
@[go_sem] theorem T109_zero : wai T109 = some (.d .nilfunc) := by kernel_rfl
@[go_sem] theorem T109_ok : waf T109 = true := by kernel_rfl
noncomputable def T110 : Ty := (wad Tryd.prog 110).getD ⟨.invalid, 0, 0, none⟩
@[go_sem] theorem ty110 : wad Tryd.prog 110 = some T110 := by kernel_rfl
@[go_sem] theorem T110_desc : T110.desc = .func #[3, 32] #[4] false := by kernel_rfl
@[go_sem] theorem T110_size : T110.size = 1 := by kernel_rfl
@[go_sem] theorem T110_bytes : T110.bytes = 8 := by kernel_rfl
@[go_sem] theorem T110_zero : wai T110 = some (.d .nilfunc) := by kernel_rfl
@[go_sem] theorem T110_ok : waf T110 = true := by kernel_rfl
noncomputable def T111 : Ty := (wad Tryd.prog 111).getD ⟨.invalid, 0, 0, none⟩
@[go_sem] theorem ty111 : wad Tryd.prog 111 = some T111 := by kernel_rfl
@[go_sem] theorem T111_desc : T111.desc = .func #[54] #[54] false := by kernel_rfl
@[go_sem] theorem T111_size : T111.size = 1 := by kernel_rfl
@[go_sem] theorem T111_bytes : T111.bytes = 8 := by kernel_rfl
@[go_sem] theorem T111_zero : wai T111 = some (.d .nilfunc) := by kernel_rfl
@[go_sem] theorem T111_ok : waf T111 = true := by kernel_rfl
noncomputable def T112 : Ty := (wad Tryd.prog 112).getD ⟨.invalid, 0, 0, none⟩
@[go_sem] theorem ty112 : wad Tryd.prog 112 = some T112 := by kernel_rfl
@[go_sem] theorem T112_desc : T112.desc = .func #[22, 3, 3] #[22] false := by kernel_rfl
@[go_sem] theorem T112_size : T112.size = 1 := by kernel_rfl
@[go_sem] theorem T112_bytes : T112.bytes = 8 := by kernel_rfl
@[go_sem] theorem T112_zero : wai T112 = some (.d .nilfunc) := by kernel_rfl
@[go_sem] theorem T112_ok : waf T112 = true := by kernel_rfl
noncomputable def T113 : Ty := (wad Tryd.prog 113).getD ⟨.invalid, 0, 0, none⟩
@[go_sem] theorem ty113 : wad Tryd.prog 113 = some T113 := by kernel_rfl
@[go_sem] theorem T113_desc : T113.desc = .slice 22 := by kernel_rfl
@[go_sem] theorem es113 : wby Tryd.prog 113 = some 1 := by kernel_rfl
@[go_sem] theorem T113_size : T113.size = 1 := by kernel_rfl
@[go_sem] theorem T113_bytes : T113.bytes = 24 := by kernel_rfl
@[go_sem] theorem T113_zero : wai T113 = some (.d .nilslice) := by kernel_rfl
@[go_sem] theorem T113_ok : waf T113 = true := by kernel_rfl
noncomputable def T114 : Ty := (wad Tryd.prog 114).getD ⟨.invalid, 0, 0, none⟩
@[go_sem] theorem ty114 : wad Tryd.prog 114 = some T114 := by kernel_rfl
@[go_sem] theorem T114_desc : T114.desc = .func #[22, 116] #[4] false := by kernel_rfl
@[go_sem] theorem T114_size : T114.size = 1 := by kernel_rfl
@[go_sem] theorem T114_bytes : T114.bytes = 8 := by kernel_rfl
@[go_sem] theorem T114_zero : wai T114 = some (.d .nilfunc) := by kernel_rfl
@[go_sem] theorem T114_ok : waf T114 = true := by kernel_rfl
noncomputable def T115 : Ty := (wad Tryd.prog 115).getD ⟨.invalid, 0, 0, none⟩
@[go_sem] theorem ty115 : wad Tryd.prog 115 = some T115 := by kernel_rfl
@[go_sem] theorem T115_desc : T115.desc = .func #[3, 56] #[4] false := by kernel_rfl
@[go_sem] theorem T115_size : T115.size = 1 := by kernel_rfl
@[go_sem] theorem T115_bytes : T115.bytes = 8 := by kernel_rfl
@[go_sem] theorem T115_zero : wai T115 = some (.d .nilfunc) := by kernel_rfl
@[go_sem] theorem T115_ok : waf T115 = true := by kernel_rfl
noncomputable def T116 : Ty := (wad Tryd.prog 116).getD ⟨.invalid, 0, 0, none⟩
@[go_sem] theorem ty116 : wad Tryd.prog 116 = some T116 := by kernel_rfl
@[go_sem] theorem T116_desc : T116.desc = .func #[56] #[4] false := by kernel_rfl
@[go_sem] theorem T116_size : T116.size = 1 := by kernel_rfl
@[go_sem] theorem T116_bytes : T116.bytes = 8 := by kernel_rfl
@[go_sem] theorem T116_zero : wai T116 = some (.d .nilfunc) := by kernel_rfl
@[go_sem] theorem T116_ok : waf T116 = true := by kernel_rfl
noncomputable def T117 : Ty := (wad Tryd.prog 117).getD ⟨.invalid, 0, 0, none⟩
@[go_sem] theorem ty117 : wad Tryd.prog 117 = some T117 := by kernel_rfl
@[go_sem] theorem T117_desc : T117.desc = .map 121 4 := by kernel_rfl
@[go_sem] theorem T117_size : T117.size = 1 := by kernel_rfl
@[go_sem] theorem T117_bytes : T117.bytes = 8 := by kernel_rfl
@[go_sem] theorem T117_zero : wai T117 = some (.d .nilmap) := by kernel_rfl
@[go_sem] theorem T117_ok : waf T117 = true := by kernel_rfl
noncomputable def T118 : Ty := (wad Tryd.prog 118).getD ⟨.invalid, 0, 0, none⟩
@[go_sem] theorem ty118 : wad Tryd.prog 118 = some T118 := by kernel_rfl
@[go_sem] theorem T118_desc : T118.desc = .func #[3, 95, 95] #[26, 4] false := by kernel_rfl
@[go_sem] theorem T118_size : T118.size = 1 := by kernel_rfl
@[go_sem] theorem T118_bytes : T118.bytes = 8 := by kernel_rfl
@[go_sem] theorem T118_zero : wai T118 = some (.d .nilfunc) := by kernel_rfl
@[go_sem] theorem T118_ok : waf T118 = true := by kernel_rfl
noncomputable def T119 : Ty := (wad Tryd.prog 119).getD ⟨.invalid, 0, 0, none⟩
@[go_sem] theorem ty119 : wad Tryd.prog 119 = some T119 := by kernel_rfl
@[go_sem] theorem T119_desc : T119.desc = .func #[] #[3] false := by kernel_rfl
@[go_sem] theorem T119_size : T119.size = 1 := by kernel_rfl
@[go_sem] theorem T119_bytes : T119.bytes = 8 := by kernel_rfl
@[go_sem] theorem T119_zero : wai T119 = some (.d .nilfunc) := by kernel_rfl
@[go_sem] theorem T119_ok : waf T119 = true := by kernel_rfl
noncomputable def T120 : Ty := (wad Tryd.prog 120).getD ⟨.invalid, 0, 0, none⟩
@[go_sem] theorem ty120 : wad Tryd.prog 120 = some T120 := by kernel_rfl
@[go_sem] theorem egt120 : Tryd.prog.eqGuardType Tryd.prog.depth 120 = false := by kernel_rfl
@[go_sem] theorem T120_desc : T120.desc = .array 3 3 := by kernel_rfl
@[go_sem] theorem es120 : wby Tryd.prog 120 = none := by kernel_rfl
@[go_sem] theorem ars120 : weC Tryd.prog 120 = some (3, 1) := by kernel_rfl
@[go_sem] theorem T120_size : T120.size = 3 := by kernel_rfl
@[go_sem] theorem T120_bytes : T120.bytes = 24 := by kernel_rfl
@[go_sem] theorem T120_cells : zeroCells T120.zero = some [.d (.int .i64 0), .d (.int .i64 0), .d (.int .i64 0)] := by kernel_rfl
@[go_sem] theorem T120_zero : wai T120 = some (.d (.agg [(.int .i64 0), (.int .i64 0), (.int .i64 0)])) := by kernel_rfl
@[go_sem] theorem T120_ok : waf T120 = true := by kernel_rfl
noncomputable def T121 : Ty := (wad Tryd.prog 121).getD ⟨.invalid, 0, 0, none⟩
@[go_sem] theorem ty121 : wad Tryd.prog 121 = some T121 := by kernel_rfl
@[go_sem] theorem egt121 : Tryd.prog.eqGuardType Tryd.prog.depth 121 = false := by kernel_rfl
@[go_sem] theorem T121_desc : T121.desc = .array 3 3 := by kernel_rfl
@[go_sem] theorem es121 : wby Tryd.prog 121 = none := by kernel_rfl
@[go_sem] theorem ars121 : weC Tryd.prog 121 = some (3, 1) := by kernel_rfl
@[go_sem] theorem T121_size : T121.size = 3 := by kernel_rfl
@[go_sem] theorem T121_bytes : T121.bytes = 24 := by kernel_rfl
@[go_sem] theorem T121_cells : zeroCells T121.zero = some [.d (.int .i64 0), .d (.int .i64 0), .d (.int .i64 0)] := by kernel_rfl
@[go_sem] theorem T121_zero : wai T121 = some (.d (.agg [(.int .i64 0), (.int .i64 0), (.int .i64 0)])) := by kernel_rfl
@[go_sem] theorem T121_ok : waf T121 = true := by kernel_rfl
noncomputable def T122 : Ty := (wad Tryd.prog 122).getD ⟨.invalid, 0, 0, none⟩
@[go_sem] theorem ty122 : wad Tryd.prog 122 = some T122 := by kernel_rfl
@[go_sem] theorem T122_desc : T122.desc = .func #[3, 113] #[26] true := by kernel_rfl
@[go_sem] theorem T122_size : T122.size = 1 := by kernel_rfl
@[go_sem] theorem T122_bytes : T122.bytes = 8 := by kernel_rfl
@[go_sem] theorem T122_zero : wai T122 = some (.d .nilfunc) := by kernel_rfl
@[go_sem] theorem T122_ok : waf T122 = true := by kernel_rfl
noncomputable def T124 : Ty := (wad Tryd.prog 124).getD ⟨.invalid, 0, 0, none⟩
@[go_sem] theorem ty124 : wad Tryd.prog 124 = some T124 := by kernel_rfl
@[go_sem] theorem T124_desc : T124.desc = .func #[3] #[3] false := by kernel_rfl
@[go_sem] theorem T124_size : T124.size = 1 := by kernel_rfl
@[go_sem] theorem T124_bytes : T124.bytes = 8 := by kernel_rfl
@[go_sem] theorem T124_zero : wai T124 = some (.d .nilfunc) := by kernel_rfl
@[go_sem] theorem T124_ok : waf T124 = true := by kernel_rfl
noncomputable def T133 : Ty := (wad Tryd.prog 133).getD ⟨.invalid, 0, 0, none⟩
@[go_sem] theorem ty133 : wad Tryd.prog 133 = some T133 := by kernel_rfl
@[go_sem] theorem T133_desc : T133.desc = .map 3 3 := by kernel_rfl
@[go_sem] theorem T133_size : T133.size = 1 := by kernel_rfl
@[go_sem] theorem T133_bytes : T133.bytes = 8 := by kernel_rfl
@[go_sem] theorem T133_zero : wai T133 = some (.d .nilmap) := by kernel_rfl
@[go_sem] theorem T133_ok : waf T133 = true := by kernel_rfl
noncomputable def T134 : Ty := (wad Tryd.prog 134).getD ⟨.invalid, 0, 0, none⟩
@[go_sem] theorem ty134 : wad Tryd.prog 134 = some T134 := by kernel_rfl
@[go_sem] theorem T134_desc : T134.desc = .func #[26] #[26] false := by kernel_rfl
@[go_sem] theorem T134_size : T134.size = 1 := by kernel_rfl
@[go_sem] theorem T134_bytes : T134.bytes = 8 := by kernel_rfl
@[go_sem] theorem T134_zero : wai T134 = some (.d .nilfunc) := by kernel_rfl
@[go_sem] theorem T134_ok : waf T134 = true := by kernel_rfl
noncomputable def T135 : Ty := (wad Tryd.prog 135).getD ⟨.invalid, 0, 0, none⟩
@[go_sem] theorem ty135 : wad Tryd.prog 135 = some T135 := by kernel_rfl
@[go_sem] theorem T135_desc : T135.desc = .map 121 26 := by kernel_rfl
@[go_sem] theorem T135_size : T135.size = 1 := by kernel_rfl
@[go_sem] theorem T135_bytes : T135.bytes = 8 := by kernel_rfl
@[go_sem] theorem T135_zero : wai T135 = some (.d .nilmap) := by kernel_rfl
@[go_sem] theorem T135_ok : waf T135 = true := by kernel_rfl
noncomputable def T136 : Ty := (wad Tryd.prog 136).getD ⟨.invalid, 0, 0, none⟩
@[go_sem] theorem ty136 : wad Tryd.prog 136 = some T136 := by kernel_rfl
@[go_sem] theorem T136_desc : T136.desc = .func #[3, 95] #[26] false := by kernel_rfl
@[go_sem] theorem T136_size : T136.size = 1 := by kernel_rfl
@[go_sem] theorem T136_bytes : T136.bytes = 8 := by kernel_rfl
@[go_sem] theorem T136_zero : wai T136 = some (.d .nilfunc) := by kernel_rfl
@[go_sem] theorem T136_ok : waf T136 = true := by kernel_rfl
noncomputable def T137 : Ty := (wad Tryd.prog 137).getD ⟨.invalid, 0, 0, none⟩
@[go_sem] theorem ty137 : wad Tryd.prog 137 = some T137 := by kernel_rfl
@[go_sem] theorem T137_desc : T137.desc = .func #[22, 3] #[3] false := by kernel_rfl
@[go_sem] theorem T137_size : T137.size = 1 := by kernel_rfl
@[go_sem] theorem T137_bytes : T137.bytes = 8 := by kernel_rfl
@[go_sem] theorem T137_zero : wai T137 = some (.d .nilfunc) := by kernel_rfl
@[go_sem] theorem T137_ok : waf T137 = true := by kernel_rfl
noncomputable def T142 : Ty := (wad Tryd.prog 142).getD ⟨.invalid, 0, 0, none⟩
@[go_sem] theorem ty142 : wad Tryd.prog 142 = some T142 := by kernel_rfl
@[go_sem] theorem T142_desc : T142.desc = .func #[61] #[4] false := by kernel_rfl
@[go_sem] theorem T142_size : T142.size = 1 := by kernel_rfl
@[go_sem] theorem T142_bytes : T142.bytes = 8 := by kernel_rfl
@[go_sem] theorem T142_zero : wai T142 = some (.d .nilfunc) := by kernel_rfl
@[go_sem] theorem T142_ok : waf T142 = true := by kernel_rfl
noncomputable def T145 : Ty := (wad Tryd.prog 145).getD ⟨.invalid, 0, 0, none⟩
@[go_sem] theorem ty145 : wad Tryd.prog 145 = some T145 := by kernel_rfl
@[go_sem] theorem T145_desc : T145.desc = .pointer 78 := by kernel_rfl
@[go_sem] theorem T145_size : T145.size = 1 := by kernel_rfl
@[go_sem] theorem T145_bytes : T145.bytes = 8 := by kernel_rfl
@[go_sem] theorem T145_zero : wai T145 = some (.d .nilptr) := by kernel_rfl
@[go_sem] theorem T145_ok : waf T145 = true := by kernel_rfl
noncomputable def T146 : Ty := (wad Tryd.prog 146).getD ⟨.invalid, 0, 0, none⟩
@[go_sem] theorem ty146 : wad Tryd.prog 146 = some T146 := by kernel_rfl
@[go_sem] theorem T146_desc : T146.desc = .pointer 148 := by kernel_rfl
@[go_sem] theorem T146_size : T146.size = 1 := by kernel_rfl
@[go_sem] theorem T146_bytes : T146.bytes = 8 := by kernel_rfl
@[go_sem] theorem T146_zero : wai T146 = some (.d .nilptr) := by kernel_rfl
@[go_sem] theorem T146_ok : waf T146 = true := by kernel_rfl
noncomputable def T148 : Ty := (wad Tryd.prog 148).getD ⟨.invalid, 0, 0, none⟩
@[go_sem] theorem ty148 : wad Tryd.prog 148 = some T148 := by kernel_rfl
noncomputable def fs148 : Array Field := match T148.desc with | .struct fs => fs | _ => #[]
@[go_sem] theorem T148_desc : T148.desc = .struct fs148 := by kernel_rfl
noncomputable def fs148_0 : Field := fs148.getD 0 default
@[go_sem] theorem fs148_at0 : fs148[0]? = some fs148_0 := by kernel_rfl
@[go_sem] theorem fs148_0_type : fs148_0.type = 146 := by kernel_rfl
@[go_sem] theorem fs148_0_off : fs148_0.offset = 0 := by kernel_rfl
@[go_sem] theorem fo148_0 : wau Tryd.prog 148 0 = some (0, 1) := by kernel_rfl
noncomputable def fs148_1 : Field := fs148.getD 1 default
@[go_sem] theorem fs148_at1 : fs148[1]? = some fs148_1 := by kernel_rfl
@[go_sem] theorem fs148_1_type : fs148_1.type = 52 := by kernel_rfl
@[go_sem] theorem fs148_1_off : fs148_1.offset = 1 := by kernel_rfl
@[go_sem] theorem fo148_1 : wau Tryd.prog 148 1 = some (1, 1) := by kernel_rfl
@[go_sem] theorem pl148 : wbq Tryd.prog fs148.toList = some [(0, 1), (1, 1)] := by kernel_rfl
@[go_sem] theorem T148_size : T148.size = 2 := by kernel_rfl
@[go_sem] theorem T148_bytes : T148.bytes = 32 := by kernel_rfl
@[go_sem] theorem T148_cells : zeroCells T148.zero = some [.d .nilptr, .d .nilslice] := by kernel_rfl
@[go_sem] theorem T148_zero : wai T148 = some (.d (.agg [.nilptr, .nilslice])) := by kernel_rfl
@[go_sem] theorem T148_ok : waf T148 = true := by kernel_rfl
noncomputable def T150 : Ty := (wad Tryd.prog 150).getD ⟨.invalid, 0, 0, none⟩
@[go_sem] theorem ty150 : wad Tryd.prog 150 = some T150 := by kernel_rfl
@[go_sem] theorem T150_size : T150.size = 1 := by kernel_rfl
@[go_sem] theorem T150_bytes : T150.bytes = 16 := by kernel_rfl
@[go_sem] theorem T150_zero : wai T150 = some (.d .niliface) := by kernel_rfl
@[go_sem] theorem T150_ok : waf T150 = true := by kernel_rfl
noncomputable def T159 : Ty := (wad Tryd.prog 159).getD ⟨.invalid, 0, 0, none⟩
@[go_sem] theorem ty159 : wad Tryd.prog 159 = some T159 := by kernel_rfl
@[go_sem] theorem T159_desc : T159.desc = .int .u64 := by kernel_rfl
@[go_sem] theorem T159_size : T159.size = 1 := by kernel_rfl
@[go_sem] theorem T159_bytes : T159.bytes = 8 := by kernel_rfl
@[go_sem] theorem T159_zero : wai T159 = some (.d (.int .u64 0)) := by kernel_rfl
@[go_sem] theorem T159_ok : waf T159 = true := by kernel_rfl
noncomputable def T160 : Ty := (wad Tryd.prog 160).getD ⟨.invalid, 0, 0, none⟩
@[go_sem] theorem ty160 : wad Tryd.prog 160 = some T160 := by kernel_rfl
@[go_sem] theorem T160_desc : T160.desc = .pointer 5 := by kernel_rfl
@[go_sem] theorem T160_size : T160.size = 1 := by kernel_rfl
@[go_sem] theorem T160_bytes : T160.bytes = 8 := by kernel_rfl
@[go_sem] theorem T160_zero : wai T160 = some (.d .nilptr) := by kernel_rfl
@[go_sem] theorem T160_ok : waf T160 = true := by kernel_rfl
noncomputable def T162 : Ty := (wad Tryd.prog 162).getD ⟨.invalid, 0, 0, none⟩
@[go_sem] theorem ty162 : wad Tryd.prog 162 = some T162 := by kernel_rfl
@[go_sem] theorem T162_desc : T162.desc = .int .i64 := by kernel_rfl
@[go_sem] theorem T162_size : T162.size = 1 := by kernel_rfl
@[go_sem] theorem T162_bytes : T162.bytes = 8 := by kernel_rfl
@[go_sem] theorem T162_zero : wai T162 = some (.d (.int .i64 0)) := by kernel_rfl
@[go_sem] theorem T162_ok : waf T162 = true := by kernel_rfl
noncomputable def T167 : Ty := (wad Tryd.prog 167).getD ⟨.invalid, 0, 0, none⟩
@[go_sem] theorem ty167 : wad Tryd.prog 167 = some T167 := by kernel_rfl
@[go_sem] theorem T167_desc : T167.desc = .func #[26, 3, 3, 3] #[3, 4] false := by kernel_rfl
@[go_sem] theorem T167_size : T167.size = 1 := by kernel_rfl
@[go_sem] theorem T167_bytes : T167.bytes = 8 := by kernel_rfl
@[go_sem] theorem T167_zero : wai T167 = some (.d .nilfunc) := by kernel_rfl
@[go_sem] theorem T167_ok : waf T167 = true := by kernel_rfl
noncomputable def T168 : Ty := (wad Tryd.prog 168).getD ⟨.invalid, 0, 0, none⟩
@[go_sem] theorem ty168 : wad Tryd.prog 168 = some T168 := by kernel_rfl
@[go_sem] theorem T168_desc : T168.desc = .func #[94] #[3] false := by kernel_rfl
@[go_sem] theorem T168_size : T168.size = 1 := by kernel_rfl
@[go_sem] theorem T168_bytes : T168.bytes = 8 := by kernel_rfl
@[go_sem] theorem T168_zero : wai T168 = some (.d .nilfunc) := by kernel_rfl
@[go_sem] theorem T168_ok : waf T168 = true := by kernel_rfl
noncomputable def T170 : Ty := (wad Tryd.prog 170).getD ⟨.invalid, 0, 0, none⟩
@[go_sem] theorem ty170 : wad Tryd.prog 170 = some T170 := by kernel_rfl
@[go_sem] theorem T170_desc : T170.desc = .int .u64 := by kernel_rfl
@[go_sem] theorem T170_size : T170.size = 1 := by kernel_rfl
@[go_sem] theorem T170_bytes : T170.bytes = 8 := by kernel_rfl
@[go_sem] theorem T170_zero : wai T170 = some (.d (.int .u64 0)) := by kernel_rfl
@[go_sem] theorem T170_ok : waf T170 = true := by kernel_rfl
noncomputable def T174 : Ty := (wad Tryd.prog 174).getD ⟨.invalid, 0, 0, none⟩
@[go_sem] theorem ty174 : wad Tryd.prog 174 = some T174 := by kernel_rfl
@[go_sem] theorem T174_desc : T174.desc = .int .u64 := by kernel_rfl
@[go_sem] theorem T174_size : T174.size = 1 := by kernel_rfl
@[go_sem] theorem T174_bytes : T174.bytes = 8 := by kernel_rfl
@[go_sem] theorem T174_zero : wai T174 = some (.d (.int .u64 0)) := by kernel_rfl
@[go_sem] theorem T174_ok : waf T174 = true := by kernel_rfl
noncomputable def T178 : Ty := (wad Tryd.prog 178).getD ⟨.invalid, 0, 0, none⟩
@[go_sem] theorem ty178 : wad Tryd.prog 178 = some T178 := by kernel_rfl
@[go_sem] theorem T178_desc : T178.desc = .pointer 3 := by kernel_rfl
@[go_sem] theorem T178_size : T178.size = 1 := by kernel_rfl
@[go_sem] theorem T178_bytes : T178.bytes = 8 := by kernel_rfl
@[go_sem] theorem T178_zero : wai T178 = some (.d .nilptr) := by kernel_rfl
@[go_sem] theorem T178_ok : waf T178 = true := by kernel_rfl
noncomputable def T180 : Ty := (wad Tryd.prog 180).getD ⟨.invalid, 0, 0, none⟩
@[go_sem] theorem ty180 : wad Tryd.prog 180 = some T180 := by kernel_rfl
@[go_sem] theorem T180_desc : T180.desc = .array 24 5 := by kernel_rfl
@[go_sem] theorem es180 : wby Tryd.prog 180 = none := by kernel_rfl
@[go_sem] theorem ars180 : weC Tryd.prog 180 = some (24, 1) := by kernel_rfl
@[go_sem] theorem T180_size : T180.size = 24 := by kernel_rfl
@[go_sem] theorem T180_bytes : T180.bytes = 24 := by kernel_rfl
@[go_sem] theorem T180_cells : zeroCells T180.zero = some [.d (.int .u8 0), .d (.int .u8 0), .d (.int .u8 0), .d (.int .u8 0), .d (.int .u8 0), .d (.int .u8 0), .d (.int .u8 0), .d (.int .u8 0), .d (.int .u8 0), .d (.int .u8 0), .d (.int .u8 0), .d (.int .u8 0), .d (.int .u8 0), .d (.int .u8 0), .d (.int .u8 0), .d (.int .u8 0), .d (.int .u8 0), .d (.int .u8 0), .d (.int .u8 0), .d (.int .u8 0), .d (.int .u8 0), .d (.int .u8 0), .d (.int .u8 0), .d (.int .u8 0)] := by kernel_rfl
@[go_sem] theorem T180_zero : wai T180 = some (.d (.agg [(.int .u8 0), (.int .u8 0), (.int .u8 0), (.int .u8 0), (.int .u8 0), (.int .u8 0), (.int .u8 0), (.int .u8 0), (.int .u8 0), (.int .u8 0), (.int .u8 0), (.int .u8 0), (.int .u8 0), (.int .u8 0), (.int .u8 0), (.int .u8 0), (.int .u8 0), (.int .u8 0), (.int .u8 0), (.int .u8 0), (.int .u8 0), (.int .u8 0), (.int .u8 0), (.int .u8 0)])) := by kernel_rfl
@[go_sem] theorem T180_ok : waf T180 = true := by kernel_rfl
noncomputable def T184 : Ty := (wad Tryd.prog 184).getD ⟨.invalid, 0, 0, none⟩
@[go_sem] theorem ty184 : wad Tryd.prog 184 = some T184 := by kernel_rfl
@[go_sem] theorem T184_desc : T184.desc = .pointer 174 := by kernel_rfl
@[go_sem] theorem T184_size : T184.size = 1 := by kernel_rfl
@[go_sem] theorem T184_bytes : T184.bytes = 8 := by kernel_rfl
@[go_sem] theorem T184_zero : wai T184 = some (.d .nilptr) := by kernel_rfl
@[go_sem] theorem T184_ok : waf T184 = true := by kernel_rfl
noncomputable def T188 : Ty := (wad Tryd.prog 188).getD ⟨.invalid, 0, 0, none⟩
@[go_sem] theorem ty188 : wad Tryd.prog 188 = some T188 := by kernel_rfl
@[go_sem] theorem T188_desc : T188.desc = .array 20 170 := by kernel_rfl
@[go_sem] theorem es188 : wby Tryd.prog 188 = none := by kernel_rfl
@[go_sem] theorem ars188 : weC Tryd.prog 188 = some (20, 1) := by kernel_rfl
@[go_sem] theorem T188_size : T188.size = 20 := by kernel_rfl
@[go_sem] theorem T188_bytes : T188.bytes = 160 := by kernel_rfl
@[go_sem] theorem T188_cells : zeroCells T188.zero = some [.d (.int .u64 0), .d (.int .u64 0), .d (.int .u64 0), .d (.int .u64 0), .d (.int .u64 0), .d (.int .u64 0), .d (.int .u64 0), .d (.int .u64 0), .d (.int .u64 0), .d (.int .u64 0), .d (.int .u64 0), .d (.int .u64 0), .d (.int .u64 0), .d (.int .u64 0), .d (.int .u64 0), .d (.int .u64 0), .d (.int .u64 0), .d (.int .u64 0), .d (.int .u64 0), .d (.int .u64 0)] := by kernel_rfl
@[go_sem] theorem T188_zero : wai T188 = some (.d (.agg [(.int .u64 0), (.int .u64 0), (.int .u64 0), (.int .u64 0), (.int .u64 0), (.int .u64 0), (.int .u64 0), (.int .u64 0), (.int .u64 0), (.int .u64 0), (.int .u64 0), (.int .u64 0), (.int .u64 0), (.int .u64 0), (.int .u64 0), (.int .u64 0), (.int .u64 0), (.int .u64 0), (.int .u64 0), (.int .u64 0)])) := by kernel_rfl
@[go_sem] theorem T188_ok : waf T188 = true := by kernel_rfl
noncomputable def T189 : Ty := (wad Tryd.prog 189).getD ⟨.invalid, 0, 0, none⟩
@[go_sem] theorem ty189 : wad Tryd.prog 189 = some T189 := by kernel_rfl
@[go_sem] theorem T189_desc : T189.desc = .array 65 5 := by kernel_rfl
@[go_sem] theorem es189 : wby Tryd.prog 189 = none := by kernel_rfl
@[go_sem] theorem ars189 : weC Tryd.prog 189 = some (65, 1) := by kernel_rfl
@[go_sem] theorem T189_size : T189.size = 65 := by kernel_rfl
@[go_sem] theorem T189_bytes : T189.bytes = 65 := by kernel_rfl
@[go_sem] theorem T189_cells : zeroCells T189.zero = some [.d (.int .u8 0), .d (.int .u8 0), .d (.int .u8 0), .d (.int .u8 0), .d (.int .u8 0), .d (.int .u8 0), .d (.int .u8 0), .d (.int .u8 0), .d (.int .u8 0), .d (.int .u8 0), .d (.int .u8 0), .d (.int .u8 0), .d (.int .u8 0), .d (.int .u8 0), .d (.int .u8 0), .d (.int .u8 0), .d (.int .u8 0), .d (.int .u8 0), .d (.int .u8 0), .d (.int .u8 0), .d (.int .u8 0), .d (.int .u8 0), .d (.int .u8 0), .d (.int .u8 0), .d (.int .u8 0), .d (.int .u8 0), .d (.int .u8 0), .d (.int .u8 0), .d (.int .u8 0), .d (.int .u8 0), .d (.int .u8 0), .d (.int .u8 0), .d (.int .u8 0), .d (.int .u8 0), .d (.int .u8 0), .d (.int .u8 0), .d (.int .u8 0), .d (.int .u8 0), .d (.int .u8 0), .d (.int .u8 0), .d (.int .u8 0), .d (.int .u8 0), .d (.int .u8 0), .d (.int .u8 0), .d (.int .u8 0), .d (.int .u8 0), .d (.int .u8 0), .d (.int .u8 0), .d (.int .u8 0), .d (.int .u8 0), .d (.int .u8 0), .d (.int .u8 0), .d (.int .u8 0), .d (.int .u8 0), .d (.int .u8 0), .d (.int .u8 0), .d (.int .u8 0), .d (.int .u8 0), .d (.int .u8 0), .d (.int .u8 0), .d (.int .u8 0), .d (.int .u8 0), .d (.int .u8 0), .d (.int .u8 0), .d (.int .u8 0)] := by kernel_rfl
@[go_sem] theorem T189_zero : wai T189 = some (.d (.agg [(.int .u8 0), (.int .u8 0), (.int .u8 0), (.int .u8 0), (.int .u8 0), (.int .u8 0), (.int .u8 0), (.int .u8 0), (.int .u8 0), (.int .u8 0), (.int .u8 0), (.int .u8 0), (.int .u8 0), (.int .u8 0), (.int .u8 0), (.int .u8 0), (.int .u8 0), (.int .u8 0), (.int .u8 0), (.int .u8 0), (.int .u8 0), (.int .u8 0), (.int .u8 0), (.int .u8 0), (.int .u8 0), (.int .u8 0), (.int .u8 0), (.int .u8 0), (.int .u8 0), (.int .u8 0), (.int .u8 0), (.int .u8 0), (.int .u8 0), (.int .u8 0), (.int .u8 0), (.int .u8 0), (.int .u8 0), (.int .u8 0), (.int .u8 0), (.int .u8 0), (.int .u8 0), (.int .u8 0), (.int .u8 0), (.int .u8 0), (.int .u8 0), (.int .u8 0), (.int .u8 0), (.int .u8 0), (.int .u8 0), (.int .u8 0), (.int .u8 0), (.int .u8 0), (.int .u8 0), (.int .u8 0), (.int .u8 0), (.int .u8 0), (.int .u8 0), (.int .u8 0), (.int .u8 0), (.int .u8 0), (.int .u8 0), (.int .u8 0), (.int .u8 0), (.int .u8 0), (.int .u8 0)])) := by kernel_rfl
@[go_sem] theorem T189_ok : waf T189 = true := by kernel_rfl
noncomputable def T190 : Ty := (wad Tryd.prog 190).getD ⟨.invalid, 0, 0, none⟩
@[go_sem] theorem ty190 : wad Tryd.prog 190 = some T190 := by kernel_rfl
@[go_sem] theorem T190_desc : T190.desc = .array 32 5 := by kernel_rfl
@[go_sem] theorem es190 : wby Tryd.prog 190 = none := by kernel_rfl
@[go_sem] theorem ars190 : weC Tryd.prog 190 = some (32, 1) := by kernel_rfl
@[go_sem] theorem T190_size : T190.size = 32 := by kernel_rfl
@[go_sem] theorem T190_bytes : T190.bytes = 32 := by kernel_rfl
@[go_sem] theorem T190_cells : zeroCells T190.zero = some [.d (.int .u8 0), .d (.int .u8 0), .d (.int .u8 0), .d (.int .u8 0), .d (.int .u8 0), .d (.int .u8 0), .d (.int .u8 0), .d (.int .u8 0), .d (.int .u8 0), .d (.int .u8 0), .d (.int .u8 0), .d (.int .u8 0), .d (.int .u8 0), .d (.int .u8 0), .d (.int .u8 0), .d (.int .u8 0), .d (.int .u8 0), .d (.int .u8 0), .d (.int .u8 0), .d (.int .u8 0), .d (.int .u8 0), .d (.int .u8 0), .d (.int .u8 0), .d (.int .u8 0), .d (.int .u8 0), .d (.int .u8 0), .d (.int .u8 0), .d (.int .u8 0), .d (.int .u8 0), .d (.int .u8 0), .d (.int .u8 0), .d (.int .u8 0)] := by kernel_rfl
@[go_sem] theorem T190_zero : wai T190 = some (.d (.agg [(.int .u8 0), (.int .u8 0), (.int .u8 0), (.int .u8 0), (.int .u8 0), (.int .u8 0), (.int .u8 0), (.int .u8 0), (.int .u8 0), (.int .u8 0), (.int .u8 0), (.int .u8 0), (.int .u8 0), (.int .u8 0), (.int .u8 0), (.int .u8 0), (.int .u8 0), (.int .u8 0), (.int .u8 0), (.int .u8 0), (.int .u8 0), (.int .u8 0), (.int .u8 0), (.int .u8 0), (.int .u8 0), (.int .u8 0), (.int .u8 0), (.int .u8 0), (.int .u8 0), (.int .u8 0), (.int .u8 0), (.int .u8 0)])) := by kernel_rfl
@[go_sem] theorem T190_ok : waf T190 = true := by kernel_rfl
noncomputable def T191 : Ty := (wad Tryd.prog 191).getD ⟨.invalid, 0, 0, none⟩
@[go_sem] theorem ty191 : wad Tryd.prog 191 = some T191 := by kernel_rfl
@[go_sem] theorem T191_desc : T191.desc = .array 64 5 := by kernel_rfl
@[go_sem] theorem es191 : wby Tryd.prog 191 = none := by kernel_rfl
@[go_sem] theorem ars191 : weC Tryd.prog 191 = some (64, 1) := by kernel_rfl
@[go_sem] theorem T191_size : T191.size = 64 := by kernel_rfl
@[go_sem] theorem T191_bytes : T191.bytes = 64 := by kernel_rfl
@[go_sem] theorem T191_cells : zeroCells T191.zero = some [.d (.int .u8 0), .d (.int .u8 0), .d (.int .u8 0), .d (.int .u8 0), .d (.int .u8 0), .d (.int .u8 0), .d (.int .u8 0), .d (.int .u8 0), .d (.int .u8 0), .d (.int .u8 0), .d (.int .u8 0), .d (.int .u8 0), .d (.int .u8 0), .d (.int .u8 0), .d (.int .u8 0), .d (.int .u8 0), .d (.int .u8 0), .d (.int .u8 0), .d (.int .u8 0), .d (.int .u8 0), .d (.int .u8 0), .d (.int .u8 0), .d (.int .u8 0), .d (.int .u8 0), .d (.int .u8 0), .d (.int .u8 0), .d (.int .u8 0), .d (.int .u8 0), .d (.int .u8 0), .d (.int .u8 0), .d (.int .u8 0), .d (.int .u8 0), .d (.int .u8 0), .d (.int .u8 0), .d (.int .u8 0), .d (.int .u8 0), .d (.int .u8 0), .d (.int .u8 0), .d (.int .u8 0), .d (.int .u8 0), .d (.int .u8 0), .d (.int .u8 0), .d (.int .u8 0), .d (.int .u8 0), .d (.int .u8 0), .d (.int .u8 0), .d (.int .u8 0), .d (.int .u8 0), .d (.int .u8 0), .d (.int .u8 0), .d (.int .u8 0), .d (.int .u8 0), .d (.int .u8 0), .d (.int .u8 0), .d (.int .u8 0), .d (.int .u8 0), .d (.int .u8 0), .d (.int .u8 0), .d (.int .u8 0), .d (.int .u8 0), .d (.int .u8 0), .d (.int .u8 0), .d (.int .u8 0), .d (.int .u8 0)] := by kernel_rfl
@[go_sem] theorem T191_zero : wai T191 = some (.d (.agg [(.int .u8 0), (.int .u8 0), (.int .u8 0), (.int .u8 0), (.int .u8 0), (.int .u8 0), (.int .u8 0), (.int .u8 0), (.int .u8 0), (.int .u8 0), (.int .u8 0), (.int .u8 0), (.int .u8 0), (.int .u8 0), (.int .u8 0), (.int .u8 0), (.int .u8 0), (.int .u8 0), (.int .u8 0), (.int .u8 0), (.int .u8 0), (.int .u8 0), (.int .u8 0), (.int .u8 0), (.int .u8 0), (.int .u8 0), (.int .u8 0), (.int .u8 0), (.int .u8 0), (.int .u8 0), (.int .u8 0), (.int .u8 0), (.int .u8 0), (.int .u8 0), (.int .u8 0), (.int .u8 0), (.int .u8 0), (.int .u8 0), (.int .u8 0), (.int .u8 0), (.int .u8 0), (.int .u8 0), (.int .u8 0), (.int .u8 0), (.int .u8 0), (.int .u8 0), (.int .u8 0), (.int .u8 0), (.int .u8 0), (.int .u8 0), (.int .u8 0), (.int .u8 0), (.int .u8 0), (.int .u8 0), (.int .u8 0), (.int .u8 0), (.int .u8 0), (.int .u8 0), (.int .u8 0), (.int .u8 0), (.int .u8 0), (.int .u8 0), (.int .u8 0), (.int .u8 0)])) := by kernel_rfl
@[go_sem] theorem T191_ok : waf T191 = true := by kernel_rfl
@[go_sem] theorem es194 : wby Tryd.prog 194 = none := by kernel_rfl
@[go_sem] theorem ars194 : weC Tryd.prog 194 = some (0, 1) := by kernel_rfl
@[go_sem] theorem rg0 : List.range 0 = [] := by decide
@[go_sem] theorem rg3 : List.range 3 = [0, 1, 2] := by decide
@[go_sem] theorem se22 : wbt Tryd.prog 22 = some (56, T56) := by kernel_rfl
@[go_sem] theorem se26 : wbt Tryd.prog 26 = some (3, T3) := by kernel_rfl
@[go_sem] theorem se32 : wbt Tryd.prog 32 = some (37, T37) := by kernel_rfl
@[go_sem] theorem se52 : wbt Tryd.prog 52 = some (5, T5) := by kernel_rfl
@[go_sem] theorem se54 : wbt Tryd.prog 54 = some (61, T61) := by kernel_rfl
@[go_sem] theorem se76 : wbt Tryd.prog 76 = some (120, T120) := by kernel_rfl
@[go_sem] theorem se79 : wbt Tryd.prog 79 = some (26, T26) := by kernel_rfl
@[go_sem] theorem se113 : wbt Tryd.prog 113 = some (22, T22) := by kernel_rfl
end Go.Pv.Tryd

namespace Go.Pv.Tryd
open Go.Proofs Go.Pv
theorem mo : Tryd.prog.follows .mixedOrders = true := by kernel_rfl
def wo4 : Nat := 0
def G : List (Nat × PD) := [(wo4, .agg (Lib.pow10Tab.map (PD.int .u64)))]
attribute [go_sem] reduceCtorEq Nat.reduceAdd Nat.reduceMul Nat.reduceLT Nat.reduceLeDiff Nat.reduceEqDiff Nat.reduceBEq Int.reduceToNat
attribute [go_sem] Tryd.results2 Tryd.results3 Tryd.results4 Tryd.results5 Tryd.results6 Tryd.results7 Tryd.results8 Tryd.results9 Tryd.results10 Tryd.results11 Tryd.results12 Tryd.results13 Tryd.results14 Tryd.results15 Tryd.results16 Tryd.results17 Tryd.results18 Tryd.results19 Tryd.results20 Tryd.results21 Tryd.results22 Tryd.results23 Tryd.results24 Tryd.results25 Tryd.results26 Tryd.results27 Tryd.results28 Tryd.results29 Tryd.results30 Tryd.results31 Tryd.results32 Tryd.results33 Tryd.results34 Tryd.results35 Tryd.results36 Tryd.results37 Tryd.results38 Tryd.results39 Tryd.results40 Tryd.results41 Tryd.results42 Tryd.results43 Tryd.results44 Tryd.results45 Tryd.results46 Tryd.results47 Tryd.results48 Tryd.results49 Tryd.results50 Tryd.results51 Tryd.results52 Tryd.results53 Tryd.results54 Tryd.results55 Tryd.results56 Tryd.results57 Tryd.results58 Tryd.results59 Tryd.results60 Tryd.results61 Tryd.results62 Tryd.results63 Tryd.results64 Tryd.results65 Tryd.results66 Tryd.results67 Tryd.results68 Tryd.results69 Tryd.results70 Tryd.results71 Tryd.results72 Tryd.results73 Tryd.results74 Tryd.results75 Tryd.results76 Tryd.results77 Tryd.results78 Tryd.results79 Tryd.results80 Tryd.results81 Tryd.results82 Tryd.results83 Tryd.results84 Tryd.results85 Tryd.results86 Tryd.results87 Tryd.results88 Tryd.results89 Tryd.results90 Tryd.results91 Tryd.results92 Tryd.results93 Tryd.results94 Tryd.results95 Tryd.results96 Tryd.results97 Tryd.results98 Tryd.results99 Tryd.results100 Tryd.results101 Tryd.results102 Tryd.results103 Tryd.results104 Tryd.results105 Tryd.results106 Tryd.results107 Tryd.results108 Tryd.results109 Tryd.results110 Tryd.results111 Tryd.results112 Tryd.results113 Tryd.results114 Tryd.results115 Tryd.results116 Tryd.results117 Tryd.results118 Tryd.results119 Tryd.results120 Tryd.results121 Tryd.results122 Tryd.results123 Tryd.results124 Tryd.results125 Tryd.results126 Tryd.results127 Tryd.results128 Tryd.results130 Tryd.results131 Tryd.results132 Tryd.results133 Tryd.results134 Tryd.results135 Tryd.results136 Tryd.results137 Tryd.results138 Tryd.results139 Tryd.results140 Tryd.results141 Tryd.results142 Tryd.results143 Tryd.results144 Tryd.results145 Tryd.results146 Tryd.results147 Tryd.results170
theorem wsl : Tryd.prog.underlying 135 = some (.map 121 26) := by kernel_rfl
theorem wix : KeyEnc Tryd.prog 121 Arr3_Int.pd (fun a : Arr3_Int => Value.agg (([a.c0, a.c1, a.c2].map (Value.int .i64)).toArray)) := by
 obtain ⟨i, hi, hs⟩ : ∃ i, Tryd.prog.info? 3 = some i ∧ i.size = 1 := by
  have h : (Tryd.prog.info? 3).map (·.size) = some 1 := by kernel_rfl
  simpa [Option.map_eq_some_iff] using h
 exact KeyEnc.ints (n := 3) (by kernel_rfl) hi hs (by kernel_rfl) (fun a : Arr3_Int => [a.c0, a.c1, a.c2]) (fun _ => rfl) (by rintro ⟨⟩ ⟨⟩ h; simp at h; simp [h])
theorem ws3 : T26.zero = some (.slice none 0 0) := by kernel_rfl
theorem wou : Tryd.prog.underlying 117 = some (.map 121 4) := by kernel_rfl
theorem MZ4 : T4.zero = some (.bool false) := by kernel_rfl
theorem wsF : Tryd.prog.underlying 89 = some (.map 121 3) := by kernel_rfl
theorem MZ3 : T3.zero = some (.int .i64 0) := by kernel_rfl
theorem wsG : Tryd.prog.underlying 90 = some (.map 9 3) := by kernel_rfl
theorem KE9 : KeyEnc Tryd.prog 9 PD.str Value.string := KeyEnc.str (by kernel_rfl)
theorem wsm : Tryd.prog.underlying 133 = some (.map 3 3) := by kernel_rfl
theorem KE3 : KeyEnc Tryd.prog 3 (PD.int .i64) (Value.int .i64) := KeyEnc.int (by kernel_rfl)
end Go.Pv.Tryd

namespace Go.Pv
theorem wdu {α : Type} (l : List α) {i : Nat} (h : l.length ≤ i) : l.drop i = [] := List.drop_eq_nil_of_le h
theorem wbB {S X : Type} (f : S → Option (S ⊕ X)) (s : S) : iter f s = (f s).bind fun o => match o with
  | .inl s' => iter f s'
  | .inr x => some x := by
 cases h : f s with
 | none =>
  simp only [Option.bind_none]
  cases hi : iter f s with
  | none => rfl
  | some x =>
   obtain ⟨n, hn⟩ := wis hi
   cases n with
   | zero => cases hn
   | succ n => rw [weY, h] at hn; cases hn
 | some o =>
  simp only [Option.bind_some]
  cases o with
  | inr x => exact wbu h
  | inl s' =>
   show iter f s = iter f s'
   cases hi : iter f s' with
   | some x => exact wcB h hi
   | none =>
    cases hi2 : iter f s with
    | none => rfl
    | some x =>
     obtain ⟨n, hn⟩ := wis hi2
     cases n with
     | zero => cases hn
     | succ n =>
      rw [weY, h] at hn
      have := wla (f := f) (s := s') (n := n) hn
      rw [hi] at this; cases this
theorem wkN {α : Type} {s : List α} {p : α → Option Bool} {q : α → Bool} {f : Int → Option (Int ⊕ (Unit ⊕ Int))} (hs : s.length ≤ 9223372036854775807)
  (hf : ∀ v, f v = cond (decide (v < (s.length : Int))) ((idx s v).bind fun e => (p e).bind fun r => cond r (some (.inr (.inr v))) (some (.inl (IntKind.i64.wrap (v + 1))))) (some (.inr (.inl ()))))
  (hq : ∀ x ∈ s, p x = some (q x)) : ∀ (k i : Nat), k = s.length - i → iter f (i : Int) = some (match (s.drop i).findIdx? q with | some j => .inr ((i + j : Nat) : Int) | none => .inl ())
 | 0, i, hk => by
  have h1 : decide ((i : Int) < (s.length : Int)) = false := by simp; omega
  rw [wbB, hf, h1, List.drop_eq_nil_of_le (by omega)]; rfl
 | k + 1, i, hk => by
  have hi : i < s.length := by omega
  have h1 : decide ((i : Int) < (s.length : Int)) = true := by simp; omega
  have h2 : idx s (i : Int) = some s[i] := by
   unfold idx
   simp [hi]
  rw [wbB, hf, h1, h2, List.drop_eq_getElem_cons hi, List.findIdx?_cons]
  simp only [cond_true, Option.bind_some, hq _ (List.getElem_mem hi)]
  cases hb : q s[i] with
  | true => simp
  | false =>
   simp only [cond_false, Option.bind_some]
   rw [wal (by omega)]
   have := wkN hs hf hq k (i + 1) (by omega)
   rw [show ((i : Int) + 1) = ((i + 1 : Nat) : Int) by omega, this]
   cases (s.drop (i + 1)).findIdx? q with
   | none => rfl
   | some j => simp; omega
end Go.Pv

namespace Go.Pv
theorem wlE {α : Type} (l : List α) (q : α → Bool) : decide (0 ≤ (match l.findIdx? q with | some j => (j : Int) | none => -1)) = l.any q := by
 cases h : l.findIdx? q with
 | none =>
  rw [List.findIdx?_eq_none_iff] at h
  have : l.any q = false := by rw [List.any_eq_false]; intro x hx; simp [h x hx]
  rw [this]; rfl
 | some j =>
  have h2 : l.any q = true := by
   cases ha : l.any q with
   | true => rfl
   | false =>
    rw [List.any_eq_false] at ha
    have : l.findIdx? q = none := List.findIdx?_eq_none_iff.2 fun x hx => by simpa using ha x hx
    rw [h] at this; cases this
  rw [h2]; simp
def wfj (b : Band) : Bool := ((decide (b.Lo < 0)) || (decide (b.Hi ≤ b.Lo))) || (decide (1000 < b.Hi))
def wbb (k : Int) (r : Rule) : Bool := (((decide ((r.Bands.length : Int) = k)) && (decide (0 ≤ r.Code))) && (decide (r.Code ≤ 99))) && !(r.Bands.any wfj)
theorem wrk (s : List Band) (hs : s.length ≤ 9223372036854775807) : wa6 s = some (match s.findIdx? wfj with | some j => (j : Int) | none => -1) := by
 unfold wa6
 have h := wkN (s := s) (p := wdL) (q := wfj) (f := wbv s) hs (fun v => rfl) (fun x _ => rfl) (s.length) 0 (by omega)
 rw [show ((0 : Nat) : Int) = 0 from rfl] at h
 rw [h, List.drop_zero]
 cases s.findIdx? wfj <;> simp
theorem wss (s : List Band) (hs : s.length ≤ 9223372036854775807) : waR s = some (s.any wfj) := by
 unfold waR
 rw [wrk s hs, Option.bind_some, wlE]
theorem wst {k : Int} (hk : k ≤ 4) (r : Rule) : wdR k r = some (wbb k r) := by
 unfold wdR wbb
 cases hc : (((decide ((r.Bands.length : Int) = k)) && (decide (0 ≤ r.Code))) && (decide (r.Code ≤ 99))) with
 | false => rfl
 | true =>
  have hl : (r.Bands.length : Int) = k := by simp at hc; exact hc.1.1
  simp only [cond_true, Bool.true_and]
  rw [wss _ (by omega)]; rfl
theorem wol {k : Int} (hk : k ≤ 4) (s : List Rule) (hs : s.length ≤ 9223372036854775807) : wbi s k = some (match s.findIdx? (fun r => !wbb k r) with | some j => (j : Int) | none => -1) := by
 unfold wbi
 have h := wkN (s := s) (p := fun e => wbW e k) (q := fun r => !wbb k r) (f := wbK s k) hs (fun v => rfl) (fun x _ => by unfold wbW; rw [wst hk]; rfl) (s.length) 0 (by omega)
 rw [show ((0 : Nat) : Int) = 0 from rfl] at h
 rw [h, List.drop_zero]
 cases s.findIdx? (fun r => !wbb k r) <;> simp
theorem wpS {k : Int} (hk : k ≤ 4) (s : List Rule) (hs : s.length ≤ 9223372036854775807) : waO s k = some (s.any fun r => !wbb k r) := by
 unfold waO
 rw [wol hk s hs, Option.bind_some, wlE]
end Go.Pv

namespace Go.Pv
def wkO (k : Int) (t : List Rule) : Int := cond (decide (24 < (t.length : Int))) 3 (cond (t.any fun r => !wbb k r) 2 0)
def wh5 (k : Int) : List (List Rule) → Int
 | [] => 0
 | t :: l => cond (wkO k t == 0) (wh5 k l) (wkO k t)
def chk (k : Int) (ts : List (List Rule)) : Int := if 1 ≤ k ∧ k ≤ 4 then wh5 k ts else 2
theorem wkP {k : Int} (hk : k ≤ 4) (ts : List (List Rule)) (hs : ts.length ≤ 9223372036854775807) : ∀ (n i : Nat), n = ts.length - i → iter (wbC k ts) (i : Int) = some (cond (wh5 k (ts.drop i) == 0) (.inl ()) (.inr (wh5 k (ts.drop i))))
 | 0, i, hn => by
  have h1 : decide ((i : Int) < (ts.length : Int)) = false := by simp; omega
  rw [wbB, List.drop_eq_nil_of_le (by omega)]
  unfold wbC
  rw [h1]; rfl
 | n + 1, i, hn => by
  have hi : i < ts.length := by omega
  have h1 : decide ((i : Int) < (ts.length : Int)) = true := by simp; omega
  have h2 : idx ts (i : Int) = some ts[i] := by unfold idx; simp [hi]
  rw [wbB, List.drop_eq_getElem_cons hi]
  have ih := wkP hk ts hs n (i + 1) (by omega)
  generalize hm : wbC k ts = f at ih ⊢
  have hf : f (i : Int) = cond (decide (24 < (ts[i].length : Int))) (some (.inr (.inr 3))) ((waO ts[i] k).bind fun r2 => cond r2 (some (.inr (.inr 2))) (some (.inl (IntKind.i64.wrap ((i : Int) + 1))))) := by
   rw [← hm]; unfold wbC; rw [h1, cond_true, h2]; rfl
  rw [hf]
  simp only [wh5, wkO]
  cases hb : decide (24 < (ts[i].length : Int)) with
  | true => rfl
  | false =>
   have hb : ¬ 24 < (ts[i].length : Int) := by simpa using hb
   simp only [cond_false]
   rw [wpS hk _ (by omega), Option.bind_some]
   cases ha : ts[i].any fun r => !wbb k r with
   | true => rfl
   | false =>
    simp only [cond_false, Option.bind_some]
    rw [wal (by omega), show ((i : Int) + 1) = ((i + 1 : Nat) : Int) by omega]
    exact ih
theorem wgz (k : Int) (ts : List (List Rule)) (hs : ts.length ≤ 9223372036854775807) : wbm k ts = some (chk k ts) := by
  unfold wbm wd5 chk
  simp only [Option.bind_some]
  by_cases hk : 1 ≤ k ∧ k ≤ 4
  · have h1 : (!(decide (1 ≤ k) && decide (k ≤ 4))) = false := by simp; exact hk
    rw [h1, if_pos hk, cond_false]
    have h := wkP hk.2 ts hs ts.length 0 (by omega)
    rw [show ((0 : Nat) : Int) = 0 from rfl, List.drop_zero] at h
    rw [h]
    cases h0 : wh5 k ts == 0 with
    | true => have : wh5 k ts = 0 := by simpa using h0
              rw [this]; rfl
    | false => rfl
  · have h1 : (!(decide (1 ≤ k) && decide (k ≤ 4))) = true := by
      cases h : decide (1 ≤ k) && decide (k ≤ 4) with
      | false => rfl
      | true => exfalso; simp at h; exact hk h
    rw [h1, if_neg hk, cond_true]
theorem wmI {k : Int} (e : Rule) (hl : (e.Bands.length : Int) = k) (hk : k ≤ 4) : ∀ (n i : Nat), n = e.Bands.length - i → iter (wcb k e) (i : Int) = some (cond ((e.Bands.drop i).any wfj) (.inr 2) (.inl ()))
 | 0, i, hn => by
  have h1 : decide ((i : Int) < k) = false := by simp; omega
  rw [wbB, List.drop_eq_nil_of_le (by omega)]
  unfold wcb
  rw [h1]; rfl
 | n + 1, i, hn => by
  have hi : i < e.Bands.length := by omega
  have h1 : decide ((i : Int) < k) = true := by simp; omega
  have h2 : idx e.Bands (i : Int) = some e.Bands[i] := by unfold idx; simp [hi]
  have ih := wmI e hl hk n (i + 1) (by omega)
  rw [wbB, List.drop_eq_getElem_cons hi]
  generalize hm : wcb k e = f at ih ⊢
  have hf : f (i : Int) = cond (decide (e.Bands[i].Lo < 0)) (some (.inr (.inr 2))) (cond (decide (e.Bands[i].Hi ≤ e.Bands[i].Lo)) (some (.inr (.inr 2))) (cond (decide (1000 < e.Bands[i].Hi)) (some (.inr (.inr 2))) (some (.inl (IntKind.i64.wrap ((i : Int) + 1)))))) := by
   rw [← hm]; unfold wcb; rw [h1, cond_true, h2]; rfl
  rw [hf]
  simp only [List.any_cons, wfj]
  cases ha : decide (e.Bands[i].Lo < 0) with
  | true => rfl
  | false =>
   cases hb : decide (e.Bands[i].Hi ≤ e.Bands[i].Lo) with
   | true => rfl
   | false =>
    cases hc : decide (1000 < e.Bands[i].Hi) with
    | true => rfl
    | false =>
     simp only [cond_false, Option.bind_some, Bool.false_or]
     rw [wal (by omega), show ((i : Int) + 1) = ((i + 1 : Nat) : Int) by omega]
     exact ih
theorem wmJ {k : Int} (hk : k ≤ 4) (t : List Rule) (ht : t.length ≤ 24) : ∀ (n i : Nat), n = t.length - i → iter (wcc k t) (i : Int) = some (cond ((t.drop i).any fun r => !wbb k r) (.inr 2) (.inl ()))
 | 0, i, hn => by
  have h1 : decide ((i : Int) < (t.length : Int)) = false := by simp; omega
  rw [wbB, List.drop_eq_nil_of_le (by omega)]
  unfold wcc
  rw [h1]; rfl
 | n + 1, i, hn => by
  have hi : i < t.length := by omega
  have h1 : decide ((i : Int) < (t.length : Int)) = true := by simp; omega
  have h2 : idx t (i : Int) = some t[i] := by unfold idx; simp [hi]
  have ih := wmJ hk t ht n (i + 1) (by omega)
  rw [wbB, List.drop_eq_getElem_cons hi]
  generalize hm : wcc k t = f at ih ⊢
  have hf : f (i : Int) = cond (wbb k t[i]) (some (.inl (IntKind.i64.wrap ((i : Int) + 1)))) (some (.inr (.inr 2))) := by
   rw [← hm]; unfold wcc; rw [h1, cond_true, h2, Option.bind_some]
   by_cases hc : ((t[i].Bands.length : Int) = k ∧ 0 ≤ t[i].Code) ∧ t[i].Code ≤ 99
   ·have e1 : (((decide (¬(t[i].Bands.length : Int) = k)) || (decide (t[i].Code < 0))) || (decide (99 < t[i].Code))) = false := by
     simp only [Bool.or_eq_false_iff, decide_eq_false_iff_not]; exact ⟨⟨fun h => h hc.1.1, by omega⟩, by omega⟩
    have e2 : wbb k t[i] = !(t[i].Bands.any wfj) := by simp [wbb, hc.1.1, hc.1.2, hc.2]
    have hb := wmI t[i] hc.1.1 hk t[i].Bands.length 0 (by omega)
    rw [show ((0 : Nat) : Int) = 0 from rfl, List.drop_zero] at hb
    rw [e1, cond_false, hb, e2]
    cases t[i].Bands.any wfj <;> rfl
   ·have e1 : (((decide (¬(t[i].Bands.length : Int) = k)) || (decide (t[i].Code < 0))) || (decide (99 < t[i].Code))) = true := by
     cases he : (((decide (¬(t[i].Bands.length : Int) = k)) || (decide (t[i].Code < 0))) || (decide (99 < t[i].Code))) with
     | true => rfl
     | false =>
      exfalso; simp only [Bool.or_eq_false_iff, decide_eq_false_iff_not, Decidable.not_not] at he
      exact hc ⟨⟨he.1.1, by omega⟩, by omega⟩
    have e2 : wbb k t[i] = false := by
     cases he : wbb k t[i] with
     | false => rfl
     | true => exfalso; simp only [wbb, Bool.and_eq_true, decide_eq_true_eq] at he; exact hc he.1
    rw [e1, e2]; rfl
  rw [hf]
  simp only [List.any_cons]
  cases hc : wbb k t[i] with
  | false => rfl
  | true =>
   simp only [cond_true, Option.bind_some, Bool.not_true, Bool.false_or]
   rw [wal (by omega), show ((i : Int) + 1) = ((i + 1 : Nat) : Int) by omega]
   exact ih
theorem wi7 (k : Int) (t : List Rule) : wbR k t = some (chk k [t]) := by
 unfold wbR chk
 by_cases hk : 1 ≤ k ∧ k ≤ 4
 ·have h1 : ((decide (k < 1)) || (decide (4 < k))) = false := by simp; omega
  rw [h1, cond_false, if_pos hk]
  simp only [wh5, wkO]
  cases ht : decide (24 < (t.length : Int)) with
  | true => rfl
  | false =>
   have ht : ¬ 24 < (t.length : Int) := by simpa using ht
   have hb := wmJ hk.2 t (by omega) t.length 0 (by omega)
   rw [show ((0 : Nat) : Int) = 0 from rfl, List.drop_zero] at hb
   rw [cond_false, hb]
   cases t.any fun r => !wbb k r <;> rfl
 ·have h1 : ((decide (k < 1)) || (decide (4 < k))) = true := by
   simp only [Bool.or_eq_true, decide_eq_true_eq]; omega
  rw [h1, cond_true, if_neg hk]
end Go.Pv

namespace Go.Pv
def wo5 (b : Band) (x : Int) : Bool := !(decide (x < b.Lo)) && !(decide (b.Hi ≤ x))
def wfr : List Band → List Int → Bool
 | b :: bs, x :: l => wo5 b x && wfr bs l
 | _, _ => true
def wnn (t : List Rule) (l : List Int) : Int := match t.findIdx? (fun r => wfr r.Bands l) with | some j => (j : Int) | none => -1
end Go.Pv

namespace Go.Pv
theorem wew {k : Int} {t : List Rule} (h : chk k [t] = 0) : 1 ≤ k ∧ k ≤ 4 ∧ t.length ≤ 24 ∧ ∀ r ∈ t, wbb k r = true := by
 unfold chk at h
 by_cases hk : 1 ≤ k ∧ k ≤ 4
 ·rw [if_pos hk] at h
  simp only [wh5, wkO] at h
  cases hb : decide (24 < (t.length : Int)) with
  | true => rw [hb] at h; simp at h
  | false =>
   rw [hb] at h
   cases ha : t.any fun r => !wbb k r with
   | true => rw [ha] at h; simp at h
   | false =>
    rw [List.any_eq_false] at ha
    refine ⟨hk.1, hk.2, by simp at hb; omega, fun r hr => ?_⟩
    have := ha r hr
    simpa using this
 ·rw [if_neg hk] at h; cases h
theorem wjO {k : Int} {r : Rule} (h : wbb k r = true) : (r.Bands.length : Int) = k := by
 simp only [wbb, Bool.and_eq_true, decide_eq_true_eq] at h; exact h.1.1.1
end Go.Pv

namespace Go.Pv
def wdS (n : Int) : List Int → List Int
 | [] => [n]
 | x :: l => cond (decide (n ≤ x)) (cond (decide (n < x)) (n :: x :: l) (x :: l)) (x :: wdS n l)
def wkQ (n : Int) (l : List Int) : Bool := l.any fun x => decide (n ≤ x)
theorem wo6 {n : Int} : ∀ {l : List Int}, wkQ n l = false → wdS n l = l ++ [n]
 | [], _ => rfl
 | x :: l, h => by
  simp only [wkQ, List.any_cons, Bool.or_eq_false_iff] at h
  simp only [wdS, h.1, cond_false, List.cons_append, wo6 (l := l) h.2]
theorem wnT (l : List Int) (n : Int) (hl : l.length ≤ 1000000) : ∀ (m i : Nat) (L : List Int), m = l.length - i → L.length ≤ i + 1 → iter (wa4 l n) (true, (i : Int), L) = some (true, L ++ l.drop i)
 | 0, i, L, hm, hL => by
  have h1 : decide ((i : Int) < (l.length : Int)) = false := by simp; omega
  rw [wbB, wdu (l) (by omega)]
  unfold wa4
  simp only [h1, cond_false, Option.bind_some, List.append_nil]
 | m + 1, i, L, hm, hL => by
  have hi : i < l.length := by omega
  have h1 : decide ((i : Int) < (l.length : Int)) = true := by simp; omega
  have h2 : idx l (i : Int) = some l[i] := by unfold idx; simp [hi]
  have ih := wnT l n hl m (i + 1) (L ++ [l[i]]) (by omega) (by simp; omega)
  rw [wbB, List.drop_eq_getElem_cons hi]
  generalize hf0 : wa4 l n = f at ih ⊢
  have hf : f (true, (i : Int), L) = some (.inl (true, IntKind.i64.wrap ((i : Int) + 1), L ++ [l[i]])) := by
   rw [← hf0]; unfold wa4
   simp only [h1, cond_true, Bool.not_true, cond_false, Option.bind_some, h2]
   have : L.length + [l[i]].length ≤ 4294967296 := by simp; omega
   simp only [wah, this, if_true]
  rw [hf]
  simp only [Option.bind_some]
  rw [wal (by omega), show ((i : Int) + 1) = ((i + 1 : Nat) : Int) by omega, ih]
  simp
theorem wnU (l : List Int) (n : Int) (hl : l.length ≤ 1000000) : ∀ (m i : Nat) (L : List Int), m = l.length - i → L.length ≤ i → iter (wa4 l n) (false, (i : Int), L) = some (wkQ n (l.drop i), L ++ cond (wkQ n (l.drop i)) (wdS n (l.drop i)) (l.drop i))
 | 0, i, L, hm, hL => by
  have h1 : decide ((i : Int) < (l.length : Int)) = false := by simp; omega
  rw [wbB, wdu (l) (by omega)]
  unfold wa4
  simp only [h1, cond_false, Option.bind_some, wkQ, List.any_nil, List.append_nil]
 | m + 1, i, L, hm, hL => by
  have hi : i < l.length := by omega
  have h1 : decide ((i : Int) < (l.length : Int)) = true := by simp; omega
  have h2 : idx l (i : Int) = some l[i] := by unfold idx; simp [hi]
  have ihd := fun L hL => wnT l n hl m (i + 1) L (by omega) hL
  have ih := wnU l n hl m (i + 1) (L ++ [l[i]]) (by omega) (by simp; omega)
  rw [wbB, List.drop_eq_getElem_cons hi]
  generalize hf0 : wa4 l n = f at ih ihd ⊢
  have g1 : L.length + [n].length ≤ 4294967296 := by simp; omega
  have g2 : (L ++ [n]).length + [l[i]].length ≤ 4294967296 := by simp; omega
  have g3 : L.length + [l[i]].length ≤ 4294967296 := by simp; omega
  have hf : f (false, (i : Int), L) = cond (decide (n ≤ l[i])) (cond (decide (n < l[i])) (some (.inl (true, IntKind.i64.wrap ((i : Int) + 1), L ++ [n] ++ [l[i]]))) (some (.inl (true, IntKind.i64.wrap ((i : Int) + 1), L ++ [l[i]])))) (some (.inl (false, IntKind.i64.wrap ((i : Int) + 1), L ++ [l[i]]))) := by
   rw [← hf0]; unfold wa4
   simp only [h1, cond_true, Bool.not_false, Option.bind_some, h2]
   cases decide (n ≤ l[i]) with
   | false => simp only [cond_false, Option.bind_some, wah, g3, if_true]
   | true =>
    cases decide (n < l[i]) with
    | false => simp only [cond_true, cond_false, Option.bind_some, wah, g3, if_true]
    | true => simp only [cond_true, Option.bind_some, wah, g1, g2, if_true]
  rw [hf]
  simp only [wkQ, List.any_cons, wdS]
  cases ha : decide (n ≤ l[i]) with
  | false =>
   simp only [cond_false, Option.bind_some, Bool.false_or]
   rw [wal (by omega), show ((i : Int) + 1) = ((i + 1 : Nat) : Int) by omega, ih]
   simp only [wkQ]
   cases (List.drop (i + 1) l).any fun x => decide (n ≤ x) <;> simp
  | true =>
   cases hb : decide (n < l[i]) with
   | false =>
    simp only [cond_true, cond_false, Option.bind_some, Bool.true_or]
    rw [wal (by omega), show ((i : Int) + 1) = ((i + 1 : Nat) : Int) by omega, ihd _ (by simp; omega)]
    simp
   | true =>
    simp only [cond_true, Option.bind_some, Bool.true_or]
    rw [wal (by omega), show ((i : Int) + 1) = ((i + 1 : Nat) : Int) by omega, ihd _ (by simp; omega)]
    simp
theorem wmK (l : List Int) (n : Int) (hl : l.length ≤ 1000000) : wcy l n = some (wdS n l) := by
 unfold wcy
 have h := wnU l n hl l.length 0 [] (by omega) (by simp)
 rw [show ((0 : Nat) : Int) = 0 from rfl, List.drop_zero, List.nil_append] at h
 rw [h]
 cases hh : wkQ n l with
 | true => rfl
 | false =>
  have : l.length + [n].length ≤ 4294967296 := by simp; omega
  simp only [Option.bind_some, cond_false, Bool.not_false, cond_true, wah, this, if_true, wo6 hh]
end Go.Pv

namespace Go.Pv
def wo7 (set : Int) (i : Nat) : Bool := decide ((set.fdiv (2 ^ (min i 64))).tmod 2 = 1)
def wav (r : Rule) (mark : Nat) : Band := r.Bands.getD mark default
def wcg (mark : Nat) (set : Int) : Nat → List Rule → List Int → List Int
 | _, [], out => out
 | i, r :: l, out => wcg mark set (i + 1) l (cond (wo7 set i) (wdS (wav r mark).Hi (cond (decide (0 < (wav r mark).Lo)) (wdS (wav r mark).Lo out) out)) out)
theorem wfC (n : Int) : ∀ l : List Int, (wdS n l).length ≤ l.length + 1
 | [] => by simp [wdS]
 | x :: l => by
  simp only [wdS]
  cases decide (n ≤ x) with
  | true => cases decide (n < x) <;> simp
  | false => simp only [cond_false, List.length_cons]; have := wfC n l; omega
theorem wkR (t : List Rule) (mark : Nat) (set : Int) (ht : t.length ≤ 1000) (hm : ∀ r ∈ t, mark < r.Bands.length) : ∀ (n i : Nat) (out : List Int), n = t.length - i → out.length ≤ 1 + 2 * i → iter (wcd t (mark : Int) set) (out, (i : Int)) = some (wcg mark set i (t.drop i) out)
 | 0, i, out, hn, ho => by
  have h1 : decide ((i : Int) < (t.length : Int)) = false := by simp; omega
  rw [wbB, wdu (t) (by omega)]
  unfold wcd
  simp only [h1, cond_false, Option.bind_some, wcg]
 | n + 1, i, out, hn, ho => by
  have hi : i < t.length := by omega
  have h1 : decide ((i : Int) < (t.length : Int)) = true := by simp; omega
  have h2 : idx t (i : Int) = some t[i] := by unfold idx; simp [hi]
  have hmi := hm t[i] (List.getElem_mem hi)
  have h3 : idx t[i].Bands (mark : Int) = some (wav t[i] mark) := by unfold idx wav; simp [hmi]
  have ih := fun out ho => wkR t mark set ht hm n (i + 1) out (by omega) ho
  rw [wbB, List.drop_eq_getElem_cons hi]
  generalize hf0 : wcd t (mark : Int) set = f at ih ⊢
  have p1 := wmK out (wav t[i] mark).Lo (by omega)
  have hl1 := wfC (wav t[i] mark).Lo out
  have hf : f (out, (i : Int)) = some (.inl (cond (wo7 set i) (wdS (wav t[i] mark).Hi (cond (decide (0 < (wav t[i] mark).Lo)) (wdS (wav t[i] mark).Lo out) out)) out, IntKind.i64.wrap ((i : Int) + 1))) := by
   rw [← hf0]; unfold wcd
   have hz : (0 : Int) ≤ (i : Int) := by omega
   simp only [h1, cond_true, wah, hz, if_true, Int.toNat_natCast, wo7]
   cases decide ((set.fdiv (2 ^ (min i 64))).tmod 2 = 1) with
   | false => simp only [cond_false, Option.bind_some]
   | true =>
    simp only [cond_true, h2, h3, Option.bind_some]
    cases decide (0 < (wav t[i] mark).Lo) with
    | false => simp only [cond_false, Option.bind_some, wmK out (wav t[i] mark).Hi (by omega)]
    | true => simp only [cond_true, Option.bind_some, p1, wmK (wdS (wav t[i] mark).Lo out) (wav t[i] mark).Hi (by omega)]
  rw [hf]
  simp only [Option.bind_some, wcg]
  rw [wal (by omega), show ((i : Int) + 1) = ((i + 1 : Nat) : Int) by omega]
  refine ih _ ?_
  cases wo7 set i with
  | false => simp only [cond_false]; omega
  | true =>
   simp only [cond_true]
   cases decide (0 < (wav t[i] mark).Lo) with
   | false => simp only [cond_false]; have := wfC (wav t[i] mark).Hi out; omega
   | true => simp only [cond_true]; have := wfC (wav t[i] mark).Hi (wdS (wav t[i] mark).Lo out); omega
theorem wmL (t : List Rule) (mark : Nat) (set : Int) (ht : t.length ≤ 1000) (hm : ∀ r ∈ t, mark < r.Bands.length) : wbj t (mark : Int) set = some (wcg mark set 0 t [1000]) := by
 unfold wbj
 have h := wkR t mark set ht hm t.length 0 [1000] (by omega) (by simp)
 rw [show ((0 : Nat) : Int) = 0 from rfl, List.drop_zero] at h
 rw [h]; rfl
end Go.Pv

namespace Go.Pv
def OLe {α : Type} (a b : Option α) : Prop := ∀ r, a = some r → b = some r
theorem OLe.refl {α : Type} (a : Option α) : OLe a a := fun _ h => h
theorem OLe.bind {α β : Type} {a a' : Option α} {f f' : α → Option β} (h : OLe a a') (hf : ∀ x, OLe (f x) (f' x)) : OLe (a.bind f) (a'.bind f') := fun r hr => by
 obtain ⟨x, h1, h2⟩ := bind_some hr
 rw [h x h1]; exact hf x r h2
theorem OLe.cond {α : Type} {c : Bool} {a a' b b' : Option α} (h : OLe a a') (h2 : OLe b b') : OLe (cond c a b) (cond c a' b') := fun r hr => by
 cases c
 ·exact h2 r hr
 ·exact h r hr
theorem OLe.guard {α : Type} {p : Prop} [Decidable p] {a a' : Option α} (h : OLe a a') : OLe (wah p a) (wah p a') := fun r hr => by
 unfold wah at hr ⊢
 split at hr
 ·rename_i hp; rw [if_pos hp]; exact h r hr
 ·cases hr
theorem wo8 {S X : Type} {f f' : S → Option (S ⊕ X)} (h : ∀ s, OLe (f s) (f' s)) : ∀ (n : Nat) (s : S), OLe (wfp f n s) (wfp f' n s)
 | 0, s => fun r hr => by cases hr
 | n + 1, s => fun r hr => by
  rw [weY] at hr ⊢
  obtain ⟨o, h1, h2⟩ := bind_some hr
  rw [h s o h1]
  cases o with
  | inl s' => exact wo8 h n s' r h2
  | inr x => exact h2
theorem OLe.iter {S X : Type} {f f' : S → Option (S ⊕ X)} {n : Nat} {s : S} (h : ∀ s, OLe (f s) (f' s)) : OLe (wfp f n s) (iter f' s) := fun r hr => wla (wo8 h n s r hr)
def wed {S X : Type} (f : S → Option (S ⊕ X)) (s : S) : Option X := wfp f 300 s
theorem OLe.iterQ {S X : Type} {f f' : S → Option (S ⊕ X)} {s : S} (h : ∀ s, OLe (f s) (f' s)) : OLe (wed f s) (Pv.iter f' s) := OLe.iter h
def wno (x : Int) : List Int → List Int
 | [] => [x]
 | y :: l => if x ≤ y then x :: y :: l else y :: wno x l
def wdZ : List Int → List Int
 | [] => []
 | x :: l => wno x (wdZ l)
theorem wkS (x : Int) : ∀ l : List Int, (wno x l).Perm (x :: l)
 | [] => List.Perm.refl _
 | y :: l => by
  unfold wno
  split
  ·exact List.Perm.refl _
  ·exact ((wkS x l).cons y).trans (List.Perm.swap x y l)
theorem wlF (x : Int) : ∀ l : List Int, l.Pairwise (· ≤ ·) → (wno x l).Pairwise (· ≤ ·)
 | [], _ => List.pairwise_singleton ..
 | y :: l, h => by
  unfold wno
  rw [List.pairwise_cons] at h
  split
  ·rename_i hx
   refine List.pairwise_cons.2 ⟨fun z hz => ?_, List.pairwise_cons.2 h⟩
   rcases List.mem_cons.1 hz with rfl | hz
   ·exact hx
   ·have := h.1 z hz; omega
  ·rename_i hx
   refine List.pairwise_cons.2 ⟨fun z hz => ?_, wlF x l h.2⟩
   rcases List.mem_cons.1 ((wkS x l).mem_iff.1 hz) with rfl | hz
   ·omega
   ·exact h.1 z hz
theorem wmM : ∀ l : List Int, (wdZ l).Perm l
 | [] => List.Perm.refl _
 | x :: l => (wkS x _).trans ((wmM l).cons x)
theorem wkT : ∀ l : List Int, (wdZ l).Pairwise (· ≤ ·)
 | [] => List.Pairwise.nil
 | x :: l => wlF x _ (wkT l)
theorem wlG : ∀ {a b : List Int}, a.Pairwise (· ≤ ·) → b.Pairwise (· ≤ ·) → a.Perm b → a = b
 | [], b, _, _, h => h.nil_eq
 | x :: a, [], _, _, h => by have := h.length_eq; simp at this
 | x :: a, y :: b, h1, h2, h => by
  rw [List.pairwise_cons] at h1 h2
  have e : x = y := by
   have hx : x ∈ y :: b := h.mem_iff.1 (List.mem_cons_self ..)
   have hy : y ∈ x :: a := h.mem_iff.2 (List.mem_cons_self ..)
   rcases List.mem_cons.1 hx with rfl | hx
   ·rfl
   ·rcases List.mem_cons.1 hy with rfl | hy
    ·rfl
    ·have := h1.1 y hy; have := h2.1 x hx; omega
  subst e
  rw [wlG h1.2 h2.2 ((List.perm_cons x).1 h)]
theorem way (l : List Int) : sortI l = wdZ l := by
 refine wlG ?_ (wkT l) ?_
 ·unfold sortI
  have := List.pairwise_mergeSort (le := fun x y : Int => decide (x ≤ y)) (fun a b c h1 h2 => by simp at *; omega) (fun a b => by simp; omega) l
  exact this.imp fun h => by simpa using h
 ·have : (sortI l).Perm l := by unfold sortI; exact List.mergeSort_perm l _
  exact this.trans (wmM l).symm
def wo9 : Nat → Nat → List UInt8
 | 0, _ => []
 | k + 1, u => if u < 10 then [UInt8.ofNat (48 + u)] else wo9 k (u / 10) ++ [UInt8.ofNat (48 + u % 10)]
theorem wnp : ∀ (k u : Nat), u < 10 ^ k → 0 < k → wo9 k u = Lib.decDigits u
 | 0, u, _, h => by cases h
 | k + 1, u, h, _ => by
  rw [Lib.decDigits]
  simp only [wo9]
  by_cases hu : u < 10
  ·rw [if_pos hu, dif_pos hu]
  ·rw [if_neg hu, dif_neg hu]
   have h2 : u / 10 < 10 ^ k := by rw [Nat.pow_succ] at h; omega
   have h3 : 0 < k := by
    cases k with
    | zero => simp at h2; omega
    | succ k => omega
   rw [wnp k _ h2 h3]
def wqJ (n : Int) : Option ByteArray := wah (-1000000 ≤ n ∧ n ≤ 1000000) (some ⟨(if n < 0 then 45 :: wo9 7 n.natAbs else wo9 7 n.toNat).toArray⟩)
theorem wrW (n : Int) : OLe (wqJ n) (wmG n) := fun r hr => by
 unfold wqJ at hr
 obtain ⟨h1, h2⟩ := wae hr
 unfold wmG wah
 rw [if_pos (by omega), ← h2]
 simp only [Option.some.injEq]
 unfold Lib.itoa
 rw [wnp 7 _ (by omega) (by omega), wnp 7 _ (by omega) (by omega)]
end Go.Pv

