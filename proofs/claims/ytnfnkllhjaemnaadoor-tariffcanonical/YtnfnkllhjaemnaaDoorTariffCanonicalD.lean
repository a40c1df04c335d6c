/- TariffCanonical answers true for every input, as its tied card says: under the conditions of the card (Rows, Cards, Tie), no more. Part 4 of 7: by one AI agent and its programs; no person has read it. -/
import Derived.Test.YtnfnkllhjaemnaaDoorTariffCanonicalA
import Derived.Test.YtnfnkllhjaemnaaDoorTariffCanonicalB
import Derived.Test.YtnfnkllhjaemnaaDoorTariffCanonicalC
import Derived.Lib.ItoaNum
import Derived.Test.YtnfnkllhjaemnaaDoorProg
import Derived.KernelRfl
set_option linter.unusedSimpArgs false
set_option linter.unusedVariables false
set_option linter.all false

namespace Go.Pv
section
variable {P : Program} {G : List (Nat × PD)} {B : Base P} {N : Nat} {σ τ : St} {a : Act} {w : World} {φ φ' : Nm} {H H' : wac} {ρ : Nat → Nat}
theorem Row.ren_len (x : Row) : (x.ren ρ).els.length = x.els.length := by simp [Row.ren, wal]
theorem RepV.renamed {X : Nat → Prop} (hrow : ∀ r x, waa H r = some x → waa H' (ρ r) = some (x.ren ρ) ∧ φ' (ρ r) = φ r) (hown : ∀ b, own φ' H' b ↔ own φ H b) {v : Value} {p : PV} (h : RepV w X φ H v p) : RepV w X φ' H' v (p.ren ρ) := by
 have hd : ∀ b, okd w X φ H b → okd w X φ' H' b := fun b hb => ⟨hb.1, hb.2.1, fun ho => hb.2.2 ((hown b).1 ho)⟩
 have hb' : ∀ b, okb w φ H b → okb w φ' H' b := fun b hb => ⟨hb.1, fun ho => hb.2 ((hown b).1 ho)⟩
 induction h with
 | any v => simp only [PV.ren]; exact .any v
 | d h => simp only [PV.ren]; exact .d (h.mono hd (fun _ _ => rfl))
 | b h => simp only [PV.ren]; exact .b (h.mono hb' (fun _ _ => rfl))
 | @ptr r i off b x hx hb hk =>
  simp only [PV.ren]
  obtain ⟨h1, h2⟩ := hrow _ _ hx
  exact .ptr (x := x.ren ρ) h1 (h2.trans hb) hk
 | dptr h hi => simp only [PV.ren]; exact .dptr (h.mono hd (fun _ _ => rfl)) hi
 | bptr h hi => simp only [PV.ren]; exact .bptr (h.mono hb' (fun _ _ => rfl)) hi
 | glob g => simp only [PV.ren]; exact .glob g
 | @slc r lo n cap b x hx hb hk hn hc hl hz =>
  simp only [PV.ren]
  obtain ⟨h1, h2⟩ := hrow _ _ hx
  exact .slc (x := x.ren ρ) h1 (h2.trans hb) hk (by rw [Row.ren_len]; exact hn) hc (by rw [Row.ren_len]; exact hl) hz
 | @slc0 r x p hx hb hk hp =>
  simp only [PV.ren]
  obtain ⟨h1, h2⟩ := hrow _ _ hx
  exact .slc0 (x := x.ren ρ) h1 (h2.trans hb) hk hp
 | @mp r b x hx hb hk =>
  simp only [PV.ren]
  obtain ⟨h1, h2⟩ := hrow _ _ hx
  exact .mp (x := x.ren ρ) h1 (h2.trans hb) hk
 | func hs _ ih =>
  simp only [PV.ren]
  exact .func (by rw [wal]; exact hs) fun i hi => by rw [wcn _ _ i (by rw [wal] at hi; exact hi) hi]; exact ih i (by rw [wal] at hi; exact hi)
 | agg hs _ hf ih =>
  simp only [PV.ren]
  exact .agg (by rw [wal]; exact hs) (fun i hi => by rw [wcn _ _ i (by rw [wal] at hi; exact hi) hi]; exact ih i (by rw [wal] at hi; exact hi)) fun i hi => hf i (by rw [wal] at hi; exact hi)
 | tuple hs _ ih =>
  simp only [PV.ren]
  exact .tuple (by rw [wal]; exact hs) fun i hi => by rw [wcn _ _ i (by rw [wal] at hi; exact hi) hi]; exact ih i (by rw [wal] at hi; exact hi)
structure Renames (σ τ : St) (ρ : Nat → Nat) : Prop where
 env : ∀ t, wau τ.env t = (wau σ.env t).ren ρ
 row : ∀ r x, waa σ.heap r = some x → waa τ.heap (ρ r) = some (x.ren ρ)
 all : ∀ s y, waa τ.heap s = some y → ∃ r x, waa σ.heap r = some x ∧ s = ρ r
 inj : ∀ r s x y, waa σ.heap r = some x → waa σ.heap s = some y → ρ r = ρ s → r = s
 pin : ∀ r x, waa σ.heap r = some x → r < 1000 → ρ r = r
 big : ∀ r x, waa σ.heap r = some x → 1000 ≤ r → 1000 ≤ ρ r
 dfr : τ.dfr = σ.dfr.map (PV.ren ρ)
 gh : σ.gh = τ.gh
open Classical in
noncomputable def wkf (φ : Nm) (H : wac) (ρ : Nat → Nat) : Nm := ⟨fun s => if h : ∃ r, (waa H r).isSome = true ∧ ρ r = s then φ (Classical.choose h) else none, φ.T⟩
open Classical in
theorem wsp (hi : ∀ r s x y, waa H r = some x → waa H s = some y → ρ r = ρ s → r = s) {r : Nat} {x : Row} (h : waa H r = some x) : (wkf φ H ρ) (ρ r) = φ r := by
 have hex : ∃ r', (waa H r').isSome = true ∧ ρ r' = ρ r := ⟨r, by rw [h]; rfl, rfl⟩
 show (if h : ∃ r', (waa H r').isSome = true ∧ ρ r' = ρ r then φ (Classical.choose h) else none) = _
 rw [dif_pos hex]
 obtain ⟨h1, h2⟩ := Classical.choose_spec hex
 obtain ⟨y, hy⟩ := Option.isSome_iff_exists.1 h1
 rw [hi _ _ _ _ hy h h2]
theorem Sub.ren (h : Renames σ τ ρ) : Sub G N σ τ := by
 intro P B a w φ hr
 have hat : ∀ r x, waa σ.heap r = some x → (wkf φ σ.heap ρ) (ρ r) = φ r := fun r x hx => wsp h.inj hx
 have hrow : ∀ b, waC (wkf φ σ.heap ρ) τ.heap b ↔ waC φ σ.heap b := fun b => by
  constructor
  ·rintro ⟨s, y, h1, h2⟩
   obtain ⟨r, x, h3, rfl⟩ := h.all s y h1
   exact ⟨r, x, h3, (hat r x h3).symm.trans h2⟩
  ·rintro ⟨r, x, h1, h2⟩
   exact ⟨ρ r, _, h.row r x h1, (hat r x h1).trans h2⟩
 have hown : ∀ b, own (wkf φ σ.heap ρ) τ.heap b ↔ own φ σ.heap b := fun b => or_congr (hrow b) Iff.rfl
 have hv : ∀ {v p}, RepV w B.X φ σ.heap v p → RepV w B.X (wkf φ σ.heap ρ) τ.heap v (p.ren ρ) := fun {v p} hv => hv.renamed (fun r x hx => ⟨h.row r x hx, hat r x hx⟩) hown
 have hd : ∀ b, okd w B.X φ σ.heap b → okd w B.X (wkf φ σ.heap ρ) τ.heap b := fun b hb => ⟨hb.1, hb.2.1, fun ho => hb.2.2 ((hown b).1 ho)⟩
 refine ⟨wkf φ σ.heap ρ, Rep.of_sit ⟨⟨fun s y b hs hb => ?_, fun s y hs hb => ?_, fun s t y z b hs ht hb hb' => ?_, fun b hT => ⟨(hr.heap.far b hT).1, (hr.heap.far b hT).2.1, fun ho => (hr.heap.far b hT).2.2 ((hrow b).1 ho)⟩⟩, hr.keeps, fun s y b hs hb => ?_, fun s y hs hp => ?_, fun s y b hs hp hb => ?_, ?_, hr.tnew, ?_⟩ hr.size (fun t => ?_) ?_⟩
 ·obtain ⟨r, x, h1, rfl⟩ := h.all s y hs
  have h2 := h.row r x h1
  rw [hs] at h2; cases h2
  rw [hat r x h1] at hb
  refine (hr.heap.rows r x b h1 hb).turn rfl rfl (Row.ren_len x) (fun _ _ h => h) (hr.heap.rows r x b h1 hb).free (fun i hi hi' v hv' => ?_) fun z hz => by simp only [Row.ren, wey]; exact hz.map fun p hp => wmx ρ hp
  simp only [Row.ren]
  rw [wcn _ _ i hi (by simpa [Row.ren] using hi')]
  exact hv hv'
 ·obtain ⟨r, x, h1, rfl⟩ := h.all s y hs
  have h2 := h.row r x h1
  rw [hs] at h2; cases h2
  rw [hat r x h1] at hb
  have := hr.heap.void r x h1 hb
  simp [Row.ren, this, renL]
 ·obtain ⟨r, x, h1, rfl⟩ := h.all s y hs
  obtain ⟨r', x', h1', rfl⟩ := h.all t z ht
  rw [hat r x h1] at hb
  rw [hat r' x' h1'] at hb'
  rw [hr.heap.inj r r' x x' b h1 h1' hb hb']
 ·obtain ⟨r, x, h1, rfl⟩ := h.all s y hs
  rw [hat r x h1] at hb
  exact hr.new r x b h1 hb
 ·obtain ⟨r, x, h1, rfl⟩ := h.all s y hs
  rcases Nat.lt_or_ge r 1000 with hl | hl
  ·rw [hat r x h1, h.pin r x h1 hl]
   exact hr.pins r x h1 (by simp [pinned, hl])
  ·have := h.big r x h1 hl
   simp [pinned] at hp; omega
 ·obtain ⟨r, x, h1, rfl⟩ := h.all s y hs
  rcases Nat.lt_or_ge r 1000 with hl | hl
  ·rw [hat r x h1] at hb
   exact hr.psz r x b h1 (by simp [pinned, hl]) hb
  ·have := h.big r x h1 hl
   simp [pinned] at hp; omega
 ·intro g y hm
  obtain ⟨c, e, f, v, h1, h2, h3, h4, h5, h6⟩ := hr.glob g y hm
  exact ⟨c, e, f, v, h1, fun ho => h2 ((hown g).1 ho), h3.mono hd (fun _ _ => rfl), h4, h5, h6⟩
 ·rw [← h.gh]
  exact wd0 (w := w) (φ := φ) (H := σ.heap) hr.inv rfl rfl rfl rfl (Nat.le_refl _) (fun _ _ _ => rfl) (fun b hb => .inl ((hrow b).1 hb))
 ·rw [h.env t]; exact hv (hr.env t)
 ·rw [h.dfr, ← h.gh]
  exact hr.dfr.map (fun D hD => ⟨hd D hD, rfl⟩) fun p _ v hv' => hv hv'
end
def wcR (ρ : Nat → Nat) : wac → wac
 | [] => []
 | (r, x) :: l => (r, x.ren ρ) :: wcR ρ l
def wgI (ρ : Nat → Nat) : List (Nat × PV) → List (Nat × PV)
 | [] => []
 | (t, v) :: l => (t, v.ren ρ) :: wgI ρ l
theorem wfE (ρ : Nat → Nat) : ∀ (l : wac) (r : Nat), waa (wcR ρ l) r = (waa l r).map (Row.ren ρ)
 | [], _ => rfl
 | (s, x) :: l, r => by
  simp only [wcR, waa]
  split
  ·rfl
  ·exact wfE ρ l r
theorem wjd (ρ : Nat → Nat) : ∀ (l : List (Nat × PV)) (t : Nat), wau (wgI ρ l) t = (wau l t).ren ρ
 | [], _ => by simp [wgI, wau, PV.ren]
 | (s, x) :: l, t => by
  simp only [wgI, wau]
  split
  ·rfl
  ·exact wjd ρ l t
def foc (c i q s : Nat) : Nat := if s = sn c i then q else s
def unf (c i q s : Nat) : Nat := if s = q then sn c i else s
theorem wfm {c i q s : Nat} (h : s < 1000000) : foc c i q s = s := by unfold foc; rw [if_neg (by unfold sn; omega)]
theorem foc_at {c i q : Nat} : foc c i q (sn c i) = q := by simp [foc]
theorem unf_at {c i q : Nat} : unf c i q q = sn c i := by simp [unf]
theorem wfX {c i q s : Nat} (h : s ≠ q) : unf c i q s = s := by unfold unf; rw [if_neg h]
theorem wlm {c i j : Nat} (h : sn c i = sn c j) : i = j := by unfold sn at h; omega
theorem wre {α : Type} {c i q : Nat} {F : Nat → α → PV} [NestF F] {L : List α} {x : α} (h : L[i]? = some x) : renL (foc c i q) (wbt c F L) = (wbt c F L).set i (F q x) := by
 rw [wey]
 apply List.ext_getElem?
 intro j
 rw [List.getElem?_map, List.getElem?_set]
 simp only [wbt, whr, wis]
 by_cases hij : i = j
 ·subst hij
  rw [h]; simp [NestF.ren, foc_at, (List.getElem?_eq_some_iff.1 h).1]
 ·rw [if_neg hij]
  cases L[j]? with
  | none => rfl
  | some y =>
   simp only [Option.map_some, NestF.ren]
   unfold foc
   rw [if_neg (fun e => hij (wlm e).symm)]
theorem wln {α : Type} {c i q : Nat} {F : Nat → α → PV} [NestF F] {L : List α} {x : α} (hq : q < 1000000) (hi : i < L.length) : renL (unf c i q) ((wbt c F L).set i (F q x)) = wbt c F (L.set i x) := by
 rw [wey]
 apply List.ext_getElem?
 intro j
 rw [List.getElem?_map, List.getElem?_set]
 simp only [wbt, whr, wis, List.getElem?_set]
 by_cases hij : i = j
 ·subst hij
  simp [hi, NestF.ren, unf_at]
 ·rw [if_neg hij, if_neg hij]
  cases L[j]? with
  | none => rfl
  | some y =>
   simp only [Option.map_some, NestF.ren]
   rw [wfX (by unfold sn; omega)]
theorem woW {α : Type} {c i q : Nat} {F : Nat → α → PV} [NestF F] {L : List α} {x : α} {p : PV} (hq : q < 1000000) (hi : i < L.length) (hp : p = F q x) : renL (unf c i q) ((wbt c F L).set i p) = wbt c F (L.set i x) := by
 rw [hp]; exact wln hq hi
theorem wtr (ρ : Nat → Nat) (l : List PD) : renL ρ (l.map PV.d) = l.map PV.d := by
 rw [wey, List.map_map]; rfl
theorem NestG.ren {α : Type} {g : α → Row} [NestG g] (ρ : Nat → Nat) (x : α) : (g x).ren ρ = g x := by
 obtain ⟨_, l, h⟩ := NestG.data (g := g) x
 simp only [Row.ren, h, wtr]
 cases hg : g x
 rw [hg] at h; simp only at h; subst h; rfl
section
variable {G : List (Nat × PD)} {N : Nat} {σ : St}
theorem Sub.focus {α : Type} (c i q : Nat) {F : Nat → α → PV} {g : α → Row} [NestF F] [NestG g] {L : List α} {x : α} {l l' : wac} {e' : List (Nat × PV)} (hx : L[i]? = some x) (hs : σ.heap = waz c (waL g L) l) (hlow : wcI l) (hq : waa l q = none) (hq1 : 1000 ≤ q) (hq2 : q < 1000000)
  (hl : wcR (foc c i q) l = l') (he : wgI (foc c i q) σ.env = e') (hd : σ.dfr = []) : Sub G N σ ⟨e', waz c ((waL g L).set i none) ((q, g x) :: l'), σ.dfr, σ.gh⟩ := by
 subst hl he
 have hsn : ∀ j, waa σ.heap (sn c j) = (L[j]?).map g := fun j => by rw [hs, wdC j hlow, wcB]
 have hlo : ∀ r, r < 1000000 → waa σ.heap r = waa l r := fun r h => by rw [hs, wbi h]
 have hcase : ∀ r x', waa σ.heap r = some x' → (∃ j, r = sn c j ∧ (L[j]?).map g = some x') ∨ (r < 1000000 ∧ waa l r = some x' ∧ r ≠ q) := fun r x' h => by
  rw [hs] at h
  rcases wep h with ⟨j, h1, h2⟩ | h
  ·rw [wcB] at h2; exact .inl ⟨j, h1, h2⟩
  ·by_cases hr : r < 1000000
   ·exact .inr ⟨hr, h, fun e => by rw [e, hq] at h; cases h⟩
   ·rw [wb6 hlow r (by omega)] at h; cases h
 have hlow' : wcI ((q, g x) :: wcR (foc c i q) l) := ⟨hq2, by
  have : ∀ l : wac, wcI l → wcI (wcR (foc c i q) l) := fun l => by
   induction l with
   | nil => exact fun h => h
   | cons y l ih => obtain ⟨s, y⟩ := y; exact fun h => ⟨h.1, ih h.2⟩
  exact this l hlow⟩
 have hgx : ∀ j, waa (waz c ((waL g L).set i none) ((q, g x) :: wcR (foc c i q) l)) (sn c j) = if i = j then none else (L[j]?).map g := fun j => by
  rw [wdC j hlow', wiT]
 have hgl : ∀ r, r < 1000000 → waa (waz c ((waL g L).set i none) ((q, g x) :: wcR (foc c i q) l)) r = if q = r then some (g x) else (waa l r).map (Row.ren (foc c i q)) := fun r hr => by
  rw [wbi hr]; simp only [waa, wfE]
 refine Sub.ren (ρ := foc c i q) ⟨fun t => wjd _ _ t, fun r y hy => ?_, fun s y hy => ?_, fun r s y z hy hz hrs => ?_, fun r y hy hr => ?_, fun r y hy hr => ?_, by rw [hd]; rfl, rfl⟩
 ·rcases hcase r y hy with ⟨j, rfl, h2⟩ | ⟨h1, h2, h3⟩
  ·by_cases hij : i = j
   ·subst hij
    rw [foc_at, hgl q hq2, if_pos rfl]
    rw [hx] at h2; simp only [Option.map_some, Option.some.injEq] at h2; subst h2
    rw [NestG.ren]
   ·have e1 : foc c i q (sn c j) = sn c j := by unfold foc; rw [if_neg (fun e => hij (wlm e).symm)]
    rw [e1, hgx, if_neg hij, h2]
    cases hj : L[j]? with
    | none => rw [hj] at h2; cases h2
    | some z => rw [hj] at h2; simp only [Option.map_some, Option.some.injEq] at h2; subst h2; rw [NestG.ren]
  ·rw [wfm h1, hgl r h1, if_neg (Ne.symm h3), h2]; rfl
 ·rcases wep hy with ⟨j, rfl, h2⟩ | h
  ·rw [wiT] at h2
   split at h2
   ·cases h2
   ·rename_i hij
    exact ⟨sn c j, y, (hsn j).trans h2, by unfold foc; rw [if_neg (fun e => hij (wlm e).symm)]⟩
  ·simp only [waa, wfE] at h
   split at h
   ·rename_i e; subst e
    exact ⟨sn c i, g x, by rw [hsn, hx]; rfl, foc_at.symm⟩
   ·simp only [Option.map_eq_some_iff] at h
    obtain ⟨y', h1, _⟩ := h
    have hr : s < 1000000 := Nat.lt_of_not_le fun hge => by rw [wb6 hlow s hge] at h1; cases h1
    exact ⟨s, y', (hlo s hr).trans h1, (wfm hr).symm⟩
 ·rcases hcase r y hy with ⟨j, rfl, h2⟩ | ⟨h1, h2, h3⟩ <;> rcases hcase s z hz with ⟨j', rfl, h2'⟩ | ⟨h1', h2', h3'⟩
  ·unfold foc at hrs
   split at hrs <;> split at hrs
   ·rename_i e e'; rw [e, e']
   ·unfold sn at hrs; omega
   ·unfold sn at hrs; omega
   ·exact hrs
  ·rw [wfm h1'] at hrs
   unfold foc at hrs
   split at hrs
   ·exact absurd hrs.symm h3'
   ·unfold sn at hrs; omega
  ·rw [wfm h1] at hrs
   unfold foc at hrs
   split at hrs
   ·exact absurd hrs h3
   ·unfold sn at hrs; omega
  ·rw [wfm h1, wfm h1'] at hrs; exact hrs
 ·exact wfm (by omega)
 ·unfold foc
  split
  ·exact hq1
  ·exact hr
theorem wqp (q : Nat) (l : wac) (s : Nat) : waa (wbF [q] l) s = if s = q then none else waa l s := by
 rw [wgH]; simp
theorem Sub.unfocus {α : Type} (c i q : Nat) {F : Nat → α → PV} {g : α → Row} [NestF F] [NestG g] {L : List α} (x : α) {l l' : wac} {e' : List (Nat × PV)} (hi : i < L.length) (hs : σ.heap = waz c ((waL g L).set i none) l) (hlow : wcI l) (hq : waa l q = some (g x)) (hq1 : 1000 ≤ q) (hq2 : q < 1000000)
  (hl : wcR (unf c i q) (wbF [q] l) = l') (he : wgI (unf c i q) σ.env = e') (hd : σ.dfr = []) : Sub G N σ ⟨e', waz c (waL g (L.set i x)) l', σ.dfr, σ.gh⟩ := by
 subst hl he
 have hsn : ∀ j, waa σ.heap (sn c j) = if i = j then none else (L[j]?).map g := fun j => by rw [hs, wdC j hlow, wiT]
 have hlo : ∀ r, r < 1000000 → waa σ.heap r = waa l r := fun r h => by rw [hs, wbi h]
 have hcase : ∀ r x', waa σ.heap r = some x' → (∃ j, r = sn c j ∧ i ≠ j ∧ (L[j]?).map g = some x') ∨ (r < 1000000 ∧ waa l r = some x') := fun r x' h => by
  rw [hs] at h
  rcases wep h with ⟨j, h1, h2⟩ | h
  ·rw [wiT] at h2
   split at h2
   ·cases h2
   ·rename_i hij; exact .inl ⟨j, h1, hij, h2⟩
  ·by_cases hr : r < 1000000
   ·exact .inr ⟨hr, h⟩
   ·rw [wb6 hlow r (by omega)] at h; cases h
 have hget' : ∀ s, waa (wcR (unf c i q) (wbF [q] l)) s = if s = q then none else (waa l s).map (Row.ren (unf c i q)) := fun s => by
  rw [wfE, wqp]; split <;> rfl
 have hlow' : wcI (wcR (unf c i q) (wbF [q] l)) := by
  have h1 : ∀ l : wac, wcI l → wcI (wcR (unf c i q) l) := fun l => by
   induction l with
   | nil => exact fun h => h
   | cons y l ih => obtain ⟨s, y⟩ := y; exact fun h => ⟨h.1, ih h.2⟩
  have h2 : ∀ l : wac, wcI l → wcI (wbF [q] l) := fun l => by
   induction l with
   | nil => exact fun h => h
   | cons y l ih =>
    obtain ⟨s, y⟩ := y
    intro h
    simp only [wbF]
    split
    ·exact ih h.2
    ·exact ⟨h.1, ih h.2⟩
  exact h1 _ (h2 l hlow)
 have hgx : ∀ j, waa (waz c (waL g (L.set i x)) (wcR (unf c i q) (wbF [q] l))) (sn c j) = if i = j then some (g x) else (L[j]?).map g := fun j => by
  rw [wdC j hlow', wcB, List.getElem?_set]
  split
  ·rename_i e; subst e; simp [hi]
  ·rfl
 refine Sub.ren (ρ := unf c i q) ⟨fun t => wjd _ _ t, fun r y hy => ?_, fun s y hy => ?_, fun r s y z hy hz hrs => ?_, fun r y hy hr => ?_, fun r y hy hr => ?_, by rw [hd]; rfl, rfl⟩
 ·rcases hcase r y hy with ⟨j, rfl, hij, h2⟩ | ⟨h1, h2⟩
  ·rw [wfX (by unfold sn; omega), hgx, if_neg hij, h2]
   cases hj : L[j]? with
   | none => rw [hj] at h2; cases h2
   | some z => rw [hj] at h2; simp only [Option.map_some, Option.some.injEq] at h2; subst h2; rw [NestG.ren]
  ·by_cases hrq : r = q
   ·subst hrq
    rw [unf_at, hgx, if_pos rfl]
    rw [hq] at h2; cases h2
    rw [NestG.ren]
   ·rw [wfX hrq, wbi h1, hget', if_neg hrq, h2]; rfl
 ·rcases wep hy with ⟨j, rfl, h2⟩ | h
  ·rw [wcB, List.getElem?_set] at h2
   by_cases hij : i = j
   ·subst hij
    exact ⟨q, g x, (hlo q hq2).trans hq, unf_at.symm⟩
   ·rw [if_neg hij] at h2
    exact ⟨sn c j, y, by rw [hsn, if_neg hij]; exact h2, by rw [wfX (by unfold sn; omega)]⟩
  ·rw [hget'] at h
   split at h
   ·cases h
   ·rename_i hsq
    simp only [Option.map_eq_some_iff] at h
    obtain ⟨y', h1, _⟩ := h
    have hr : s < 1000000 := Nat.lt_of_not_le fun hge => by rw [wb6 hlow s hge] at h1; cases h1
    exact ⟨s, y', (hlo s hr).trans h1, (wfX hsq).symm⟩
 ·rcases hcase r y hy with ⟨j, rfl, hij, h2⟩ | ⟨h1, h2⟩ <;> rcases hcase s z hz with ⟨j', rfl, hij', h2'⟩ | ⟨h1', h2'⟩
  ·rw [wfX (by unfold sn; omega), wfX (by unfold sn; omega)] at hrs; exact hrs
  ·rw [wfX (by unfold sn; omega)] at hrs
   unfold unf at hrs
   split at hrs
   ·exact absurd (wlm hrs).symm hij
   ·exact hrs
  ·rw [wfX (s := sn c j') (by unfold sn; omega)] at hrs
   unfold unf at hrs
   split at hrs
   ·exact absurd (wlm hrs) hij'
   ·exact hrs
  ·unfold unf at hrs
   split at hrs <;> split at hrs
   ·rename_i e e'; rw [e, e']
   ·unfold sn at hrs; omega
   ·unfold sn at hrs; omega
   ·exact hrs
 ·exact wfX (by omega)
 ·unfold unf
  split
  ·unfold sn; omega
  ·exact hr
theorem Sub.voidEl (s j e k r : Nat) {x : Row} {p p' : PV} (hs : waa σ.heap s = some x) (hk1 : 1 ≤ x.k) (hels : x.els[j]? = some p) (hpb : wbp p = false) (hr0 : waa σ.heap r = none) (hr : 1000 ≤ r)
  (hval : ∀ (w : World) (X : Nat → Prop) (φ : Nm) (H : wac) (v : Value), waa H r = some { e, k, els := [] } → φ r = none → RepV w X φ H v p → RepV w X φ H v p') :
  Sub G N σ { env := σ.env, heap := waj (waj σ.heap s { x with els := x.els.set j p' }) r { e, k, els := [] }, dfr := σ.dfr, gh := σ.gh } := by
 intro P B a w φ hrep
 have hsr : s ≠ r := fun h => by subst h; rw [hs] at hr0; cases hr0
 have hgetr : waa (waj (waj σ.heap s { x with els := x.els.set j p' }) r { e, k, els := [] }) r = some { e, k, els := [] } := by rw [wag]; simp
 have hgets : waa (waj (waj σ.heap s { x with els := x.els.set j p' }) r { e, k, els := [] }) s = some { x with els := x.els.set j p' } := by
  rw [wag, if_neg (Ne.symm hsr), wag]; simp
 have hgeto : ∀ t, t ≠ r → t ≠ s → waa (waj (waj σ.heap s { x with els := x.els.set j p' }) r { e, k, els := [] }) t = waa σ.heap t := fun t h1 h2 => by
  rw [wag, if_neg (Ne.symm h1), wag, if_neg (Ne.symm h2)]
 obtain ⟨H2, hH2⟩ : ∃ H2, H2 = waj (waj σ.heap s { x with els := x.els.set j p' }) r { e, k, els := [] } := ⟨_, rfl⟩
 rw [← hH2] at hgetr hgets hgeto ⊢
 have hback : ∀ t y, t ≠ r → waa H2 t = some y → ∃ y', waa σ.heap t = some y' ∧ y.k = y'.k ∧ y.e = y'.e ∧ y.els.length = y'.els.length := fun t y h1 h => by
  by_cases h2 : t = s
  ·subst h2; rw [hgets] at h; cases h; exact ⟨x, hs, rfl, rfl, by simp⟩
  ·rw [hgeto t h1 h2] at h; exact ⟨y, h, rfl, rfl, rfl⟩
 have hrow : ∀ b, waC (upd φ r none) H2 b → waC φ σ.heap b := by
  rintro b ⟨t, y, h1, h2⟩
  by_cases ht : t = r
  ·subst ht; simp [upd] at h2
  ·simp only [upd, ht, if_false] at h2
   obtain ⟨y', h3, _⟩ := hback t y ht h1
   exact ⟨t, y', h3, h2⟩
 have hown : ∀ b, own (upd φ r none) H2 b → own φ σ.heap b := fun b h => h.imp (hrow b) id
 have hext : Ext w B.X φ σ.heap w (upd φ r none) H2 := by
  refine ⟨fun t y h => ?_, fun b h => ⟨h.1, h.2.1, fun ho => h.2.2 (hown b ho)⟩, fun b h => ⟨h.1, fun ho => h.2 (hown b ho)⟩, fun _ _ => rfl, fun t y b _ _ c e f hh => ⟨c, e, f, hh, rfl⟩⟩
  have htr : t ≠ r := fun e => by subst e; rw [hr0] at h; cases h
  by_cases ht : t = s
  ·subst ht; rw [hs] at h; cases h
   exact ⟨_, hgets, rfl, fun _ => by simp, by simp [upd, htr]⟩
  ·exact ⟨y, (hgeto t htr ht).trans h, rfl, fun _ => rfl, by simp [upd, htr]⟩
 have hval' : ∀ v, RepV w B.X φ σ.heap v p → RepV w B.X (upd φ r none) H2 v p' := fun v hv => hval _ _ _ _ v hgetr (by simp [upd]) (hv.ext hext)
 refine ⟨upd φ r none, Rep.of_sit ⟨⟨fun t y b ht hb => ?_, fun t y ht hb => ?_, fun t u y z b ht hu hb hb' => ?_, fun b hT => ⟨(hrep.heap.far b hT).1, (hrep.heap.far b hT).2.1, fun h => (hrep.heap.far b hT).2.2 (hrow b h)⟩⟩, hrep.keeps, fun t y b ht hb => ?_, fun t y ht hp' => ?_, fun t y b ht hp' hb => ?_, ?_, hrep.tnew, wd0 (w := w) (φ := φ) (H := σ.heap) hrep.inv rfl rfl rfl rfl (Nat.le_refl _) (fun _ _ _ => rfl) (fun b hb => .inl (hrow b hb))⟩ hrep.size (fun t => (hrep.env t).ext hext) (hrep.dfr.ext hext)⟩
 ·have htr : t ≠ r := fun e => by subst e; simp [upd] at hb
  simp only [upd, htr, if_false] at hb
  by_cases h : t = s
  ·subst h; rw [hgets] at ht; cases ht
   refine (hrep.heap.rows t x b hs hb).turn rfl rfl (by simp) (fun _ _ h => h) (hrep.heap.rows t x b hs hb).free (fun m hm hm' v hv => ?_) fun z hz => hz.set (hz.past hels hpb) p'
   by_cases hjm : j = m
   ·subst hjm
    have e1 : x.els[j] = p := (List.getElem?_eq_some_iff.1 hels).2
    rw [e1] at hv
    simpa using hval' v hv
   ·have e1 : (x.els.set j p')[m] = x.els[m] := List.getElem_set_ne hjm _
    rw [e1]; exact hv.ext hext
  ·rw [hgeto t htr h] at ht
   exact (hrep.heap.rows t y b ht hb).ext hext rfl
 ·by_cases htr : t = r
  ·subst htr; rw [hgetr] at ht; cases ht; rfl
  ·simp only [upd, htr, if_false] at hb
   obtain ⟨y', h1, _, _, h4⟩ := hback t y htr ht
   have := hrep.heap.void t y' h1 hb
   rw [this] at h4
   exact List.eq_nil_of_length_eq_zero h4
 ·have htr : t ≠ r := fun e => by subst e; simp [upd] at hb
  have hur : u ≠ r := fun e => by subst e; simp [upd] at hb'
  simp only [upd, htr, hur, if_false] at hb hb'
  obtain ⟨y', h1, _⟩ := hback t y htr ht
  obtain ⟨z', h2, _⟩ := hback u z hur hu
  exact hrep.heap.inj t u y' z' b h1 h2 hb hb'
 ·have htr : t ≠ r := fun e => by subst e; simp [upd] at hb
  simp only [upd, htr, if_false] at hb
  obtain ⟨y', h1, _⟩ := hback t y htr ht
  exact hrep.new t y' b h1 hb
 ·have hlt : t < 1000 := by simpa [pinned] using hp'
  have htr : t ≠ r := by omega
  simp only [upd, htr, if_false]
  obtain ⟨y', h1, _⟩ := hback t y htr ht
  exact hrep.pins t y' h1 hp'
 ·have hlt : t < 1000 := by simpa [pinned] using hp'
  have htr : t ≠ r := by omega
  simp only [upd, htr, if_false] at hb
  obtain ⟨y', h1, _⟩ := hback t y htr ht
  exact hrep.psz t y' b h1 hp' hb
 ·exact hrep.glob.ext hext (fun g x hm => by obtain ⟨_, _, _, _, _, h2, _⟩ := hrep.glob g x hm; exact fun ho => h2 (hown g ho))
theorem wsq {w : World} {X : Nat → Prop} {φ : Nm} {H : wac} {v : Value} {p : PV} {cs : List PV} {r e k i : Nat} (hp : wdo p = true) (hcs : way p = some cs) (hi : cs[i]? = some (.d .nilslice)) (hk : 1 ≤ k) (hg : waa H r = some { e, k, els := [] }) (hφ : φ r = none) (hv : RepV w X φ H v p) : RepV w X φ H v (.agg (cs.set i (.slc r 0 0))) := by
 obtain ⟨vs, rfl⟩ := RepV.agg_of hp hv
 have h1 := wcZ hcs hv
 have hil : i < cs.length := (List.getElem?_eq_some_iff.1 hi).1
 have h2 : RepV w X φ H (vs.getD i undef) (.slc r 0 0) := by
  have h3 := h1.rep i hil
  rw [(List.getElem?_eq_some_iff.1 hi).2] at h3
  have h4 := weo (wbH h3)
  simp only [Value.cells] at h4
  rw [h4]
  exact .slc0 hg hφ hk (by simp)
 have h5 := h1.set i h2 (by have := h1.flat i hil; simpa only [Value.cells] using this)
 have h6 : (Value.agg vs).cells.setIfInBounds i (vs.getD i undef) = vs := by
  apply Array.ext
  ·simp [Value.cells]
  ·intro j h1 h2
   by_cases hji : i = j
   ·subst hji; simp [Value.cells, Array.getD, h2]
   ·exact Array.getElem_setIfInBounds_ne h2 hji
 rw [h6] at h5
 exact .agg h5.size h5.rep h5.flat
theorem wsr {w : World} {X : Nat → Prop} {φ : Nm} {H : wac} {v : Value} {r e k : Nat} (hk : 1 ≤ k) (hg : waa H r = some { e, k, els := [] }) (hφ : φ r = none) (hv : RepV w X φ H v (.d .nilslice)) : RepV w X φ H v (.slc r 0 0) := by
 have h4 := weo (wbH hv)
 rw [h4]
 exact .slc0 hg hφ hk (by simp)
theorem Sub.push {α : Type} (c R e k : Nat) {F : Nat → α → PV} {g : α → Row} {L : List α} (x : α) {l l' : wac} {e1 k1 : Nat} {p : PV} (hs : σ.heap = waz c (waL g L) l) (hlow : wcI l) (hR : waa l R = some ⟨e1, k1, wbt c F L ++ [p]⟩) (hk1 : 1 ≤ k1) (hpb : wbp p = false)
  (hg : g x = ⟨e, k, []⟩) (hval : ∀ (w : World) (X : Nat → Prop) (φ : Nm) (H : wac) (v : Value), waa H (sn c L.length) = some { e, k, els := [] } → φ (sn c L.length) = none → RepV w X φ H v p → RepV w X φ H v (F (sn c L.length) x))
  (hl : waj l R ⟨e1, k1, wbt c F (L ++ [x])⟩ = l') : Sub G N σ ⟨σ.env, waz c (waL g (L ++ [x])) l', σ.dfr, σ.gh⟩ := by
 subst hl
 have hRl : R < 1000000 := Nat.lt_of_not_le fun h => by rw [wb6 hlow R h] at hR; cases hR
 have hR' : waa σ.heap R = some ⟨e1, k1, wbt c F L ++ [p]⟩ := by rw [hs, wbi hRl]; exact hR
 have hn : waa σ.heap (sn c L.length) = none := by rw [hs, wdC _ hlow, wcB]; simp
 refine (Sub.voidEl R L.length e k (sn c L.length) hR' hk1 (p := p) (by simp [List.getElem?_append, nelF_length]) hpb hn (by unfold sn; omega) hval).trans ?_
 intro P B a w φ hr
 refine ⟨φ, hr.same ?_ rfl⟩
 funext key
 cases key with
 | t t => rfl
 | h s =>
  simp only [St.look, Cont.r.injEq]
  have e0 : (wbt c F L ++ [p]).set L.length (F (sn c L.length) x) = wbt c F (L ++ [x]) := by
   have h1 : (wbt c F L ++ [p]).set L.length (F (sn c L.length) x) = wbt c F L ++ [F (sn c L.length) x] := by
    rw [List.set_append]; simp [nelF_length]
   rw [h1]; exact wrI _ L x
  have hlow' : wcI (waj l R ⟨e1, k1, wbt c F (L ++ [x])⟩) := by
   have : ∀ l : wac, wcI l → wcI (waj l R ⟨e1, k1, wbt c F (L ++ [x])⟩) := fun l => by
    induction l with
    | nil => exact fun _ => ⟨hRl, trivial⟩
    | cons y l ih =>
     obtain ⟨s, y⟩ := y
     intro h
     simp only [waj]
     split
     ·exact ⟨h.1, h.2⟩
     ·exact ⟨h.1, ih h.2⟩
   exact this l hlow
  rw [wag, wag, e0]
  by_cases h1 : sn c L.length = s
  ·subst h1
   rw [if_pos rfl, wdC _ hlow', wcB]
   simp [hg]
  ·rw [if_neg h1]
   by_cases h2 : R = s
   ·subst h2
    rw [if_pos rfl, wbi hRl, wag, if_pos rfl]
   ·rw [if_neg h2, hs]
    by_cases hlt : s < 1000000
    ·rw [wbi hlt, wbi hlt, wag, if_neg h2]
    ·have hl1 := wb6 hlow s (by omega)
     have hl2 := wb6 hlow' s (by omega)
     have hd : ∀ (M : List (Option Row)) (l : wac), waa l s = none → waa (waz c M l) s = waa (wb3 c 0 M) s := fun M l hl => by
      simp only [waz, wd7, hl]; cases waa (wb3 c 0 M) s <;> rfl
     rw [hd _ _ hl1, hd _ _ hl2]
     by_cases hex : ∃ j, s = sn c j
     ·obtain ⟨j, rfl⟩ := hex
      have hj : j ≠ L.length := fun e => h1 (by rw [e])
      simp only [wfO, Nat.zero_le, if_true, Nat.sub_zero, wcB]
      rw [List.getElem?_append]
      by_cases hjl : j < L.length
      ·rw [if_pos hjl]
      ·rw [if_neg hjl, List.getElem?_eq_none (by omega), List.getElem?_eq_none (by simp; omega)]
     ·have hno : ∀ (M : List (Option Row)), waa (wb3 c 0 M) s = none := fun M => by
       cases hh : waa (wb3 c 0 M) s with
       | none => rfl
       | some y => obtain ⟨j, h3, _⟩ := wdM M 0 hh; exact absurd ⟨j, h3⟩ hex
      rw [hno, hno]
end
class NestP {α : Type} (F : Nat → α → PV) (g : α → Row) (pd : α → PD) : Prop where
 frz : ∀ H r x, waa H r = some (g x) → frz H (F r x) = some (pd x)
def wjB : List (Nat × PV) → Prop
 | [] => True
 | (_, v) :: l => ((rowsOf v).all fun r => decide (r < 1000000)) = true ∧ wjB l
theorem wkg : ∀ {l : List (Nat × PV)}, wjB l → ∀ t, ∀ r ∈ rowsOf (wau l t), r < 1000000
 | [], _, t, r, h => by simp [wau, rowsOf] at h
 | (s, v) :: l, h, t, r, hr => by
  simp only [wau] at hr
  split at hr
  ·have := List.all_eq_true.1 h.1 r hr
   simpa using this
  ·exact wkg h.2 t r hr
def wlX (R : Nat) : wac → Prop
 | [] => True
 | (s, x) :: l => (s = R ∨ ((rowsOfL x.els).all fun r => decide (r < 1000000)) = true) ∧ wlX R l
theorem wmi {R : Nat} : ∀ {l : wac}, wlX R l → ∀ s y, waa l s = some y → s ≠ R → ∀ r ∈ rowsOfL y.els, r < 1000000
 | [], _, s, y, h, _, _, _ => by simp [waa] at h
 | (t, x) :: l, h, s, y, hs, hne, r, hr => by
  simp only [waa] at hs
  split at hs
  ·rename_i e; subst e; cases hs
   rcases h.1 with h1 | h1
   ·exact absurd h1 hne
   ·simpa using List.all_eq_true.1 h1 r hr
  ·exact wmi h.2 s y hs hne r hr
section
variable {G : List (Nat × PD)} {N : Nat} {σ : St}
theorem Sub.unnest {α : Type} (c R : Nat) {F : Nat → α → PV} {g : α → Row} (pd : α → PD) [NestF F] [NestG g] [NestP F g pd] {L : List α} {l l' : wac} {e k : Nat} (hs : σ.heap = waz c (waL g L) l) (hlow : wcI l) (hR : waa l R = some ⟨e, k, wbt c F L⟩)
  (henv : wjB σ.env) (hrows : wlX R l) (hd : σ.dfr = []) (hgh : σ.gh = none) (hl : waj l R ⟨e, k, dl (wab pd L)⟩ = l') : Sub G N σ ⟨σ.env, l', σ.dfr, σ.gh⟩ := by
 subst hl
 intro P B a w φ hr
 have hRl : R < 1000000 := Nat.lt_of_not_le fun h => by rw [wb6 hlow R h] at hR; cases hR
 have hsn : ∀ j, waa σ.heap (sn c j) = (L[j]?).map g := fun j => by rw [hs, wdC j hlow, wcB]
 have hlo : ∀ r, r < 1000000 → waa σ.heap r = waa l r := fun r h => by rw [hs, wbi h]
 have hsmall : ∀ s y, waa l s = some y → s < 1000000 := fun s y h => Nat.lt_of_not_le fun h2 => by rw [wb6 hlow s h2] at h; cases h
 have hback : ∀ s y, waa (waj l R ⟨e, k, dl (wab pd L)⟩) s = some y → ∃ y', waa σ.heap s = some y' ∧ y.k = y'.k ∧ y.e = y'.e ∧ y.els.length = y'.els.length ∧ s < 1000000 := fun s y h => by
  rw [wag] at h
  split at h
  ·rename_i e1; subst e1; cases h
   exact ⟨_, (hlo R hRl).trans hR, rfl, rfl, by simp [dl, wab, nelF_length], hRl⟩
  ·exact ⟨y, (hlo s (hsmall s y h)).trans h, rfl, rfl, rfl, hsmall s y h⟩
 have hrow : ∀ b, waC φ (waj l R ⟨e, k, dl (wab pd L)⟩) b → waC φ σ.heap b := by
  rintro b ⟨s, y, h1, h2⟩
  obtain ⟨y', h3, _⟩ := hback s y h1
  exact ⟨s, y', h3, h2⟩
 have hown : ∀ b, own φ (waj l R ⟨e, k, dl (wab pd L)⟩) b → own φ σ.heap b := fun b h => h.imp (hrow b) id
 have hok : ∀ b, okd w B.X φ σ.heap b → okd w B.X φ (waj l R ⟨e, k, dl (wab pd L)⟩) b := fun b h => ⟨h.1, h.2.1, fun ho => h.2.2 (hown b ho)⟩
 have hext : ExtU ((List.range L.length).map (sn c)) w B.X φ σ.heap w φ (waj l R ⟨e, k, dl (wab pd L)⟩) := by
  refine ⟨fun s x hns h => ?_, hok, fun b h => ⟨h.1, fun ho => h.2 (hown b ho)⟩, fun _ _ => rfl, fun s x b _ h1 h2 c' e' f' hh => ⟨c', e', f', hh, rfl⟩⟩
  have h0 := h
  rw [hs] at h
  rcases wep h with ⟨j, rfl, h2⟩ | h
  ·rw [wcB] at h2
   have hj : j < L.length := by
    cases hj : L[j]? with
    | none => rw [hj] at h2; cases h2
    | some z => exact (List.getElem?_eq_some_iff.1 hj).1
   exact absurd (List.mem_map.2 ⟨j, by simpa using hj, rfl⟩) hns
  ·by_cases hsR : R = s
   ·subst hsR; rw [hR] at h; cases h
    exact ⟨⟨e, k, dl (wab pd L)⟩, by rw [wag, if_pos rfl], rfl, fun _ => by simp [dl, wab, nelF_length], rfl⟩
   ·exact ⟨x, by rw [wag, if_neg hsR]; exact h, rfl, fun _ => rfl, rfl⟩
 have hlowval : ∀ {v p}, RepV w B.X φ σ.heap v p → (∀ r ∈ rowsOf p, r < 1000000) → RepV w B.X φ (waj l R ⟨e, k, dl (wab pd L)⟩) v p := fun {v p} hv hp => hv.extU hext fun r hr hm => by
  obtain ⟨j, _, rfl⟩ := List.mem_map.1 hm
  have := hp _ hr
  unfold sn at this; omega
 have hsub : ∀ j x b, waa σ.heap (sn c j) = some x → φ (sn c j) = some b → okd w B.X φ (waj l R ⟨e, k, dl (wab pd L)⟩) b := fun j x b hx hb => ⟨hr.heap.lt hx hb, (hr.heap.rows _ x b hx hb).free, fun ho => by
  rcases ho with ⟨s, y, hy, hs'⟩ | hT
  ·obtain ⟨y', h3, _, _, _, h4⟩ := hback s y hy
   have e1 := hr.heap.inj s (sn c j) y' x b h3 hx hs' hb
   subst e1; unfold sn at h4; omega
  ·exact (hr.heap.far b hT).2.2 ⟨_, x, hx, hb⟩⟩
 refine ⟨φ, Rep.of_sit ⟨⟨fun s y b hy hb => ?_, fun s y hy hb => ?_, fun s t y z b hy hz hb hb' => ?_, fun b hT => ⟨(hr.heap.far b hT).1, (hr.heap.far b hT).2.1, fun ho => (hr.heap.far b hT).2.2 (hrow b ho)⟩⟩, hr.keeps, fun s y b hy hb => ?_, fun s y hy hp => ?_, fun s y b hy hp hb => ?_, ?_, hr.tnew, ?_⟩ hr.size (fun t => hlowval (hr.env t) (wkg henv t)) ?_⟩
 ·rw [wag] at hy
  by_cases hsR : R = s
  ·subst hsR
   rw [if_pos rfl] at hy; cases hy
   refine (hr.heap.rows R _ b ((hlo R hRl).trans hR) hb).turn rfl rfl (by simp [dl, wab, nelF_length]) (fun _ _ h => h) (hr.heap.rows R _ b ((hlo R hRl).trans hR) hb).free (fun i hi hi' v hv => ?_) fun z hz => ?_
   ·have hi2 : i < L.length := by simpa [nelF_length] using hi
    have e1 : (wbt c F L)[i] = F (sn c i) L[i] := by
     have := we3 c F L i
     rw [List.getElem?_eq_getElem hi, List.getElem?_eq_getElem hi2] at this
     simpa using this
    have e2 : (dl (wab pd L))[i] = .d (pd L[i]) := by simp [dl, wab]
    rw [e1] at hv
    rw [e2]
    have hgi : waa σ.heap (sn c i) = some (g L[i]) := by rw [hsn, List.getElem?_eq_getElem hi2]; rfl
    refine .d (wlb hr.heap hok hv (fun r hr' x b hx hb => ?_) (NestP.frz σ.heap (sn c i) L[i] hgi))
    have := NestF.rows _ _ _ hr'
    subst this
    exact hsub i x b hx hb
   ·have := hz.zero_of fun p hp => by
     obtain ⟨i, hi, rfl⟩ := List.getElem_of_mem hp
     have hi2 : i < L.length := by simpa [nelF_length] using hi
     have := we3 c F L i
     rw [List.getElem?_eq_getElem hi, List.getElem?_eq_getElem hi2] at this
     simp only [Option.map_some, Option.some.injEq] at this
     rw [this]; exact NestF.byte _ _
    subst this; exact .zero _
  ·rw [if_neg hsR] at hy
   have hy' := (hlo s (hsmall s y hy)).trans hy
   refine (hr.heap.rows s y b hy' hb).turn rfl rfl rfl (fun _ _ h => h) (hr.heap.rows s y b hy' hb).free (fun i hi _ v hv => hlowval hv fun r hr' => wmi hrows s y hy (Ne.symm hsR) r (wdB hi hr')) fun _ h => h
 ·obtain ⟨y', h1, _, _, h4, _⟩ := hback s y hy
  have := hr.heap.void s y' h1 hb
  rw [this] at h4
  exact List.eq_nil_of_length_eq_zero h4
 ·obtain ⟨y', h1, _⟩ := hback s y hy
  obtain ⟨z', h2, _⟩ := hback t z hz
  exact hr.heap.inj s t y' z' b h1 h2 hb hb'
 ·obtain ⟨y', h1, _⟩ := hback s y hy
  exact hr.new s y' b h1 hb
 ·obtain ⟨y', h1, _⟩ := hback s y hy
  exact hr.pins s y' h1 hp
 ·obtain ⟨y', h1, _⟩ := hback s y hy
  exact hr.psz s y' b h1 hp hb
 ·intro n y hm
  obtain ⟨c', e', f', v, h1, h2, h3, h4, h5, h6⟩ := hr.glob n y hm
  exact ⟨c', e', f', v, h1, fun ho => h2 (hown n ho), h3.mono hok (fun _ _ => rfl), h4, h5, h6⟩
 ·rw [hgh]
  have := hr.inv
  rw [hgh] at this
  exact this
 ·have := hr.dfr
  rw [hd] at this ⊢
  refine this.map (f := id) (fun D hD => ⟨hok D hD, rfl⟩) (fun p hp => by simp at hp)
end
theorem wni {gl : List (Nat × Nat)} (h : (gl.all fun p => decide (p.1 < 1000000)) = true) {s : Nat} (hs : 1000000 ≤ s) : wav gl s = s := by
 induction gl with
 | nil => rfl
 | cons p l ih =>
  obtain ⟨a, b⟩ := p
  simp only [List.all_cons, Bool.and_eq_true, decide_eq_true_eq] at h
  simp only [wav]
  rw [if_neg (by omega)]
  exact ih h.2
theorem wrM {gl : List (Nat × Nat)} (h : (gl.all fun p => decide (p.2 < 1000000)) = true) {s : Nat} (hs : s < 1000000) : wav gl s < 1000000 := by
 induction gl with
 | nil => exact hs
 | cons p l ih =>
  obtain ⟨a, b⟩ := p
  simp only [List.all_cons, Bool.and_eq_true, decide_eq_true_eq] at h
  simp only [wav]
  split
  ·exact h.1
  ·exact ih h.2
theorem wnj {α : Type} {c : Nat} {F : Nat → α → PV} [NestF F] {L : List α} {gl : List (Nat × Nat)} (h : (gl.all fun p => decide (p.1 < 1000000)) = true) : renL (wav gl) (wbt c F L) = wbt c F L := by
 rw [wey]
 apply List.ext_getElem?
 intro i
 rw [List.getElem?_map, we3]
 cases L[i]? with
 | none => rfl
 | some x => simp only [Option.map_some, NestF.ren]; rw [wni h (by unfold sn; omega)]
theorem wnk {α : Type} {c : Nat} {F : Nat → α → PV} [NestF F] {L : List α} : cleanL (wbt c F L) := by
 have : ∀ l : List PV, (∀ (i : Nat) (p : PV), l[i]? = some p → clean p) → cleanL l := fun l => by
  induction l with
  | nil => exact fun _ => trivial
  | cons p l ih => exact fun h => ⟨h 0 p rfl, ih fun i q hq => h (i + 1) q (by simpa using hq)⟩
 refine this _ fun i p hp => ?_
 rw [we3, Option.map_eq_some_iff] at hp
 obtain ⟨x, _, rfl⟩ := hp
 exact NestF.clean _ _
def wnl (g : Nat → Nat) (H : wac) : wac → Prop
 | [] => True
 | (s, x) :: l => ((H.any fun y => g y.1 == s) = true ∨ ((rowsOfL x.els).all fun r => decide (r < 1000000)) = true) ∧ wnl g H l
theorem wnm {g : Nat → Nat} {H : wac} : ∀ {l : wac}, wnl g H l → ∀ t y, waa l t = some y → (∀ r x, waa H r = some x → g r ≠ t) → ∀ s ∈ rowsOfL y.els, s < 1000000
 | [], _, t, y, h, _, _, _ => by simp [waa] at h
 | (s, x) :: l, h, t, y, hy, hn, r, hr => by
  simp only [waa] at hy
  split at hy
  ·rename_i e; subst e; cases hy
   rcases h.1 with h1 | h1
   ·obtain ⟨r', x', h2, h3⟩ := wht h1
    exact absurd h3 (hn r' x' h2)
   ·simpa using List.all_eq_true.1 h1 r hr
  ·exact wnm h.2 t y hy hn r hr
section
variable {P : Program} {G : List (Nat × PD)} {ro : Option Nat} {N : Nat} {ops : Array Oper} {σ σ' : St} {o : Oper} {rest : List Oper}
theorem OpT.relook {K : St → Prop} (h : OpT P G ro N o σ (fun τ => τ.look = σ'.look ∧ τ.rest = σ'.rest)) (hK : K σ') : OpT P G ro N o σ K :=
 fun B hro a w φ hr next Q hn => h B hro a w φ hr next Q fun τ a' w' φ' h1 h2 => hn σ' a' w' φ' hK (h2.same h1.1 h1.2)
theorem OpT.callD {α : Type} {nc : Nat} {g : α → Row} [NestG g] {L L' : List α} {c : Call} {f : FuncId} {xo : Operand} {caps args : List PV} {res : PV} {lH lH' lc : wac} {K : St → Prop} (gl : List (Nat × Nat)) (gs : List Nat)
    (hf : ObjFn P G f args (waz nc (waL g L) lH) res (waz nc (waL g L') lH')) (hs : σ.heap = waz nc (waL g L) lc) (hlH : wcI lH) (hlH' : wcI lH') (hlc : wcI lc)
    (hg1 : (gl.all fun p => decide (p.1 < 1000000)) = true) (hg2 : (gl.all fun p => decide (p.2 < 1000000)) = true)
    (hd : wan N o.dst) (ho : o.op = .call c) (hc : c.callee = .value xo) (hx : wcu (σ.eval xo) = some (f, caps)) (hcal : wbu P f = true)
    (hrow : wfh lc (wav gl) (waz nc (waL g L) lH) lH) (hinj : we0 (wav gl) lH) (hgs : wlk (wav gl) gs lH) (him : wnU (wav gl) lH gs) (hgl : (gs.all fun p => decide (p < 1000000)) = true)
    (henv : wii gs σ.env) (henv2 : wjB σ.env) (hdfr : σ.dfr = []) (hout : wha (wav gl) lH gs lc) (hout2 : wnl (wav gl) lH lc)
    (ha : wdp σ.heap (waz nc (waL g L) lH) (wav gl) (was σ c.args.toList ++ caps) args)
    (hback : whI lH (wav gl) gs (waz nc (waL g L') lH') lH') (hall : wh9 lH' lH) (hinj2 : we0 (wav gl) lH') (hcl : clean res) (hrf : refsIn (waz nc (waL g L') lH') res)
    (hK : K (({ σ with heap := waz nc (waL g L') (wbW (wav gl) lH' (wbF gs lc)) } : St).put o.dst (res.ren (wav gl)))) : OpT P G ro N o σ K := by
  have hsn : ∀ (M : List α) (l : wac), wcI l → ∀ j, waa (waz nc (waL g M) l) (sn nc j) = (M[j]?).map g := fun M l hl j => by rw [wdC j hl, wcB]
  have hcase : ∀ (M : List α) (l : wac), wcI l → ∀ r x, waa (waz nc (waL g M) l) r = some x → (∃ j, r = sn nc j ∧ (M[j]?).map g = some x) ∨ (r < 1000000 ∧ waa l r = some x) := fun M l hl r x h => by
    rcases wep h with ⟨j, h1, h2⟩ | h
    · rw [wcB] at h2; exact .inl ⟨j, h1, h2⟩
    · by_cases hr : r < 1000000
      · exact .inr ⟨hr, h⟩
      · rw [wb6 hl r (by omega)] at h; cases h
  have hbig : ∀ j, 1000000 ≤ sn nc j := fun j => by unfold sn; omega
  have hlow : ∀ r, r < 1000000 → wav gl r < 1000000 := fun r h => wrM hg2 h
  have hhigh : ∀ j, wav gl (sn nc j) = sn nc j := fun j => wni hg1 (hbig j)
  have hlen : ∀ (M : List α) j x, (M[j]?).map g = some x → j < M.length ∧ ∃ z, M[j]? = some z ∧ x = g z := fun M j x h => by
    cases hj : M[j]? with
    | none => rw [hj] at h; cases h
    | some z => rw [hj] at h; simp only [Option.map_some, Option.some.injEq] at h; exact ⟨(List.getElem?_eq_some_iff.1 hj).1, z, rfl, h.symm⟩
  have hgsl : ∀ s ∈ gs, s < 1000000 := fun s h => by simpa using List.all_eq_true.1 hgl s h
  have hmem : ∀ s, s ∈ gs ++ (List.range L.length).map (sn nc) ↔ s ∈ gs ∨ ∃ j, j < L.length ∧ s = sn nc j := fun s => by
    simp only [List.mem_append, List.mem_map, List.mem_range]
    exact or_congr Iff.rfl ⟨fun ⟨j, h1, h2⟩ => ⟨j, h1, h2.symm⟩, fun ⟨j, h1, h2⟩ => ⟨j, h1, h2.symm⟩⟩
  have hrefs : ∀ (H0 : wac) (x : α), refsInL H0 (g x).els := fun H0 x => by
    obtain ⟨_, l, h⟩ := NestG.data (g := g) x
    rw [h, wiL]; trivial
  have hclean : ∀ (x : α), cleanL (g x).els := fun x => by
    obtain ⟨_, l, h⟩ := NestG.data (g := g) x
    rw [h]
    induction l with
    | nil => trivial
    | cons p l ih => exact ⟨trivial, (by have : ∀ l : List PD, cleanL (l.map PV.d) := fun l => by
                                          induction l with
                                          | nil => trivial
                                          | cons q l ih => exact ⟨trivial, ih⟩
                                         exact this l)⟩
  have hinj0 : ∀ (M : List α) (l : wac), wcI l → we0 (wav gl) l → ∀ r s x y, waa (waz nc (waL g M) l) r = some x → waa (waz nc (waL g M) l) s = some y → wav gl r = wav gl s → r = s := fun M l hl hi r s x y h h' he => by
    rcases hcase M l hl r x h with ⟨j, rfl, _⟩ | ⟨h1, h2⟩ <;> rcases hcase M l hl s y h' with ⟨j', rfl, _⟩ | ⟨h1', h2'⟩
    · rw [hhigh, hhigh] at he; exact he
    · rw [hhigh] at he; have := hlow s h1'; have := hbig j; omega
    · rw [hhigh] at he; have := hlow r h1; have := hbig j'; omega
    · exact we1 hi r s x y (waY h2) (waY h2') he
  have hnone : ∀ j, L.length ≤ j → waa σ.heap (sn nc j) = none := fun j h => by rw [hs, hsn L lc hlc, List.getElem?_eq_none h]; rfl
  refine OpT.relook (σ' := ({ σ with heap := waz nc (waL g L') (wbW (wav gl) lH' (wbF gs lc)) } : St).put o.dst (res.ren (wav gl))) ?_ hK
  refine OpT.callU (H := waz nc (waL g L) lH) (g := wav gl) (gs := gs ++ (List.range L.length).map (sn nc)) ho hc hx hcal hf
    ⟨⟨fun r x h => ?_, hinj0 L lH hlH hinj, fun r x h => ?_⟩, fun r x h hr => ?_, fun r x h hr => ?_, fun s h => ?_, fun s h => ?_, fun s h t => ?_, fun s _ => by rw [hdfr]; simp [rowsOfL], fun s h t y hy hn => ?_⟩ ha hd ?_
  · rcases hcase L lH hlH r x h with ⟨j, rfl, h2⟩ | ⟨h1, h2⟩
    · obtain ⟨_, z, _, rfl⟩ := hlen L j x h2
      rw [hhigh, hs, hsn L lc hlc, h2, NestG.ren]
    · rw [hs, wbi (hlow r h1)]; exact (we5 hrow r x h2).1
  · rcases hcase L lH hlH r x h with ⟨j, rfl, h2⟩ | ⟨h1, h2⟩
    · obtain ⟨_, z, _, rfl⟩ := hlen L j x h2; exact hrefs _ z
    · exact (we5 hrow r x h2).2
  · rw [hmem]
    rcases hcase L lH hlH r x h with ⟨j, rfl, h2⟩ | ⟨h1, h2⟩
    · exact .inr ⟨j, (hlen L j x h2).1, hhigh j⟩
    · have := wit hgs r x h2
      rw [if_neg (by omega)] at this; exact .inl this
  · rw [hmem]
    rintro (h3 | ⟨j, _, h3⟩)
    · rcases hcase L lH hlH r x h with ⟨j, rfl, h2⟩ | ⟨h1, h2⟩
      · have := hbig j; omega
      · have := wit hgs r x h2
        rw [if_pos hr] at this; exact this h3
    · have := hlow r (by omega); have := hbig j; omega
  · rcases (hmem s).1 h with h | ⟨j, h1, rfl⟩
    · obtain ⟨⟨r, x, h2, h3⟩, _⟩ := wiu him s h
      have hr : r < 1000000 := Nat.lt_of_not_le fun h4 => by rw [wb6 hlH r h4] at h2; cases h2
      exact ⟨r, x, by rw [wbi hr]; exact h2, h3⟩
    · exact ⟨sn nc j, g L[j], by rw [hsn L lH hlH, List.getElem?_eq_getElem h1]; rfl, hhigh j⟩
  · rcases (hmem s).1 h with h | ⟨j, h1, rfl⟩
    · exact (wiu him s h).2
    · have := hbig j; omega
  · rcases (hmem s).1 h with h | ⟨j, h1, rfl⟩
    · exact wjc henv s h t
    · intro hm; have := wkg henv2 t _ hm; have := hbig j; omega
  · have hy0 := hy
    rw [hs] at hy
    have hty : waa lc t = some y := by
      rcases hcase L lc hlc t y hy with ⟨j, rfl, h2⟩ | ⟨h1, h2⟩
      · exact absurd (hhigh j) (hn (sn nc j) y (by rw [hsn L lH hlH]; exact h2))
      · exact h2
    have hn' : ∀ r x, waa lH r = some x → wav gl r ≠ t := fun r x hx => hn r x (by
      have hr : r < 1000000 := Nat.lt_of_not_le fun h4 => by rw [wb6 hlH r h4] at hx; cases hx
      rw [wbi hr]; exact hx)
    rcases (hmem s).1 h with h | ⟨j, h1, rfl⟩
    · exact wiv hout s h t y hty hn'
    · intro hm; have := wnm hout2 t y hty hn' _ hm; have := hbig j; omega
  · rintro p H' ⟨rfl, rfl⟩
    have hb : BackU σ (waz nc (waL g L) lH) (waz nc (waL g L') lH') (wav gl) (wav gl) (gs ++ (List.range L.length).map (sn nc)) := by
      refine ⟨fun r x' h hr => ?_, fun r x h hr => ?_, fun r x' h hr => ?_, hinj0 L' lH' hlH' hinj2, fun r x h => ?_⟩
      · rcases hcase L' lH' hlH' r x' h with ⟨j, rfl, h2⟩ | ⟨h1, h2⟩
        · have := hbig j; omega
        · have := (we6 hback r x' h2).1
          rw [if_pos hr] at this
          split at this
          · rename_i y hy; exact ⟨y, by rw [wbi (by omega)]; exact hy, rfl, this.1, fun hk => this.2.resolve_left (by have := this.1; omega)⟩
          · exact this.elim
      · rcases hcase L lH hlH r x h with ⟨j, rfl, h2⟩ | ⟨h1, h2⟩
        · have := hbig j; omega
        · obtain ⟨x', hx'⟩ := Option.isSome_iff_exists.1 (whG hall r x (waY h2))
          exact ⟨x', by rw [wbi h1]; exact hx'⟩
      · rw [hmem]
        rcases hcase L' lH' hlH' r x' h with ⟨j, rfl, h2⟩ | ⟨h1, h2⟩
        · rw [hhigh]
          refine ⟨?_, by have := hbig j; omega⟩
          by_cases hj : j < L.length
          · exact .inr (.inr ⟨j, hj, rfl⟩)
          · exact .inl (hnone j (by omega))
        · have := (we6 hback r x' h2).1
          rw [if_neg (by omega)] at this
          exact ⟨.inr (.inl (by simpa using this.1)), this.2⟩
      · rcases hcase L' lH' hlH' r x h with ⟨j, rfl, h2⟩ | ⟨h1, h2⟩
        · obtain ⟨_, z, _, rfl⟩ := hlen L' j x h2; exact ⟨hrefs _ z, hclean z⟩
        · exact (we6 hback r x h2).2
    refine ⟨wav gl, hb, hcl, hrf, ?_⟩
    have hm := hb.merged
    have hmin : ∀ r x, waa lH' r = some x → waa (wbW (wav gl) lH' (wbF gs lc)) (wav gl r) = some (x.ren (wav gl)) := (whE (ρ := wav gl) (l := lH') (H0 := wbF gs lc) (fun r s hr hs he => by
      obtain ⟨x, hx⟩ := Option.isSome_iff_exists.1 hr
      obtain ⟨y, hy⟩ := Option.isSome_iff_exists.1 hs
      exact we1 hinj2 r s x y (waY hx) (waY hy) he)).1
    have hmout : ∀ s, (∀ r x, waa lH' r = some x → wav gl r ≠ s) → waa (wbW (wav gl) lH' (wbF gs lc)) s = if s ∈ gs then none else waa lc s := fun s h => ((whE (ρ := wav gl) (l := lH') (H0 := wbF gs lc) (fun r s hr hs he => by
      obtain ⟨x, hx⟩ := Option.isSome_iff_exists.1 hr
      obtain ⟨y, hy⟩ := Option.isSome_iff_exists.1 hs
      exact we1 hinj2 r s x y (waY hx) (waY hy) he)).2 s h).trans (wgH _ _ _)
    have hlm : ∀ s, 1000000 ≤ s → waa (wbW (wav gl) lH' (wbF gs lc)) s = none := fun s h => by
      rw [hmout s fun r x hx e => by
        have hr : r < 1000000 := Nat.lt_of_not_le fun h4 => by rw [wb6 hlH' r h4] at hx; cases hx
        have := hlow r hr; omega]
      split
      · rfl
      · exact wb6 hlc s h
    have hheap : ∀ s, waa (wbW (wav gl) (waz nc (waL g L') lH') (wbF (gs ++ (List.range L.length).map (sn nc)) σ.heap)) s = waa (waz nc (waL g L') (wbW (wav gl) lH' (wbF gs lc))) s := fun s => by
      by_cases hex : ∃ r x, waa (waz nc (waL g L') lH') r = some x ∧ wav gl r = s
      · obtain ⟨r, x, h1, rfl⟩ := hex
        rw [hm.inn r x h1]
        rcases hcase L' lH' hlH' r x h1 with ⟨j, rfl, h2⟩ | ⟨h3, h2⟩
        · obtain ⟨_, z, _, rfl⟩ := hlen L' j x h2
          rw [hhigh, NestG.ren]
          have : waa (waz nc (waL g L') (wbW (wav gl) lH' (wbF gs lc))) (sn nc j) = (((waL g L')[j]?).join) := by
            simp only [waz, wd7, wfO, Nat.zero_le, if_true, Nat.sub_zero, hlm _ (hbig j)]
            cases ((waL g L')[j]?).join <;> rfl
          rw [this, wcB, h2]
        · rw [wbi (hlow r h3), hmin r x h2]
      · have hn : ∀ r x, waa (waz nc (waL g L') lH') r = some x → wav gl r ≠ s := fun r x h1 h2 => hex ⟨r, x, h1, h2⟩
        rw [hm.out s hn, hs]
        by_cases hsl : s < 1000000
        · rw [wbi hsl, wbi hsl]
          have hn' : ∀ r x, waa lH' r = some x → wav gl r ≠ s := fun r x hx => hn r x (by
            have hr : r < 1000000 := Nat.lt_of_not_le fun h4 => by rw [wb6 hlH' r h4] at hx; cases hx
            rw [wbi hr]; exact hx)
          rw [hmout s hn']
          by_cases h1 : s ∈ gs
          · rw [if_pos ((hmem s).2 (.inl h1)), if_pos h1]
          · rw [if_neg h1, if_neg]
            intro h2
            rcases (hmem s).1 h2 with h2 | ⟨j, _, rfl⟩
            · exact h1 h2
            · have := hbig j; omega
        · have hd2 : ∀ (M : List (Option Row)) (l : wac), waa l s = none → waa (waz nc M l) s = waa (wb3 nc 0 M) s := fun M l hl => by
            simp only [waz, wd7, hl]; cases waa (wb3 nc 0 M) s <;> rfl
          rw [hd2 _ _ (hlm s (by omega))]
          have h0 : waa (wb3 nc 0 (waL g L')) s = none := by
            cases hh : waa (wb3 nc 0 (waL g L')) s with
            | none => rfl
            | some y =>
              obtain ⟨j, rfl, h3, _⟩ := wdM _ 0 hh
              rw [Nat.sub_zero, wcB] at h3
              exact absurd (hhigh j) (hn (sn nc j) y (by rw [hsn L' lH' hlH']; exact h3))
          rw [h0]
          split
          · rfl
          · rename_i hns
            rw [hd2 _ _ (wb6 hlc s (by omega))]
            cases hh : waa (wb3 nc 0 (waL g L)) s with
            | none => rfl
            | some y =>
              obtain ⟨j, rfl, h3, _⟩ := wdM _ 0 hh
              rw [Nat.sub_zero, wcB] at h3
              exact absurd ((hmem _).2 (.inr ⟨j, (hlen L j y h3).1, rfl⟩)) hns
    refine ⟨?_, by rw [St.put_rest, St.put_rest]; rfl⟩
    funext key
    cases key with
    | t t => cases hdst : o.dst <;> simp [St.look, St.put]
    | h s =>
      have := hheap s
      cases hdst : o.dst <;> simp [St.look, St.put, this]
end
end Go.Pv

namespace Go.Pv
section
variable {P : Program} {G : List (Nat × PD)} {ro : Option Nat} {N : Nat} {ops : Array Oper} {σ σ' : St} {o : Oper} {rest : List Oper}
@[go_sem] theorem nelF_cleanT {α : Type} {c : Nat} {F : Nat → α → PV} [NestF F] {L : List α} : cleanL (wbt c F L) = True := eq_true wnk
theorem wtF {α : Type} (c : Nat) (g : α → Row) : Sub G N σ ⟨σ.env, waz c (waL g []) σ.heap, σ.dfr, σ.gh⟩ := fun _ _ _ _ φ hr => ⟨φ, hr⟩
theorem drp (e' : List (Nat × PV)) (h : wlL e' σ.env := by (repeat' (first | exact trivial | exact rfl | exact wsi (by (simp only [List.length_append, List.length_set, List.length_replicate, List.length_cons, List.length_nil, Nat.zero_add]; done)) | apply And.intro))) : Sub G N σ ⟨e', σ.heap, σ.dfr, σ.gh⟩ := by
 intro P B a w φ hr
 refine ⟨φ, ⟨hr.size, fun t => ?_, hr.heap, hr.keeps, hr.new, hr.pins, hr.psz, hr.glob, hr.tnew, hr.inv, hr.dfr⟩⟩
 rcases wk1 h t with h | h
 ·rw [h]; exact .any _
 ·rw [h]; exact hr.env t
theorem Sub.voidVar (s e k r : Nat) {x : Row} (hs : waa σ.heap s = some x) (hk1 : 1 ≤ x.k) (hels : x.els = [.d .nilslice]) (hr0 : waa σ.heap r = none) (hr : 1000 ≤ r) (hk : 1 ≤ k) :
  Sub G N σ { env := σ.env, heap := waj (waj σ.heap s { x with els := [.slc r 0 0] }) r { e, k, els := [] }, dfr := σ.dfr, gh := σ.gh } := by
 have h := Sub.voidEl (G := G) (N := N) (σ := σ) s 0 e k r (x := x) (p := .d .nilslice) (p' := .slc r 0 0) hs hk1 (by rw [hels]; rfl) rfl hr0 hr fun w X φ H v h1 h2 h3 => wsr hk h1 h2 h3
 rw [hels] at h
 exact h
theorem fcs {α : Type} (c i q : Nat) (y : Row) {F : Nat → α → PV} {g : α → Row} [NestF F] [NestG g] {L : List α} {x : α} {l l' : wac} {e' : List (Nat × PV)} (hx : L[i]? = some x)
  (hy : g x = y := by rfl) (hs : σ.heap = waz c (waL g L) l := by rfl) (hlow : wcI l := by (repeat' (first | exact trivial | decide | apply And.intro))) (hq : waa l q = none := by rfl) (hq1 : 1000 ≤ q := by decide) (hq2 : q < 1000000 := by decide)
  (hl : wcR (foc c i q) l = l' := by (simp only [wcR, Row.ren, renL, PV.ren, dl_ren, mels_ren, optP_ren, wfm, Nat.reduceLT]; rfl)) (he : wgI (foc c i q) σ.env = e' := by (simp only [wgI, renL, PV.ren, optP_ren, wfm, Nat.reduceLT]; rfl)) (hd : σ.dfr = [] := by rfl) :
  Sub G N σ ⟨e', waz c ((waL g L).set i none) ((q, y) :: l'), σ.dfr, σ.gh⟩ := hy ▸ Sub.focus (F := F) c i q hx hs hlow hq hq1 hq2 hl he hd
mutual
theorem PV.ren_id : ∀ p : PV, p.ren id = p
 | .func fn l => by simp only [PV.ren, renL_id l]
 | .agg l => by simp only [PV.ren, renL_id l]
 | .tuple l => by simp only [PV.ren, renL_id l]
 | .ptr .. => by simp only [PV.ren, id]
 | .slc .. => by simp only [PV.ren, id]
 | .mp .. => by simp only [PV.ren, id]
 | .any | .d _ | .b _ | .dptr .. | .bptr .. | .glob _ => by simp only [PV.ren]
theorem renL_id : ∀ l : List PV, renL id l = l
 | [] => by simp only [renL]
 | p :: l => by simp only [renL, PV.ren_id p, renL_id l]
end
theorem Row.ren_id (x : Row) : x.ren id = x := by simp only [Row.ren, renL_id]
theorem Sub.same {H : wac} (h : ∀ r, waa H r = waa σ.heap r) : Sub G N σ ⟨σ.env, H, σ.dfr, σ.gh⟩ :=
 Sub.ren (ρ := id) ⟨fun t => (PV.ren_id _).symm, fun r x hx => by rw [Row.ren_id]; exact (h r).trans hx, fun s y hy => ⟨s, y, (h s).symm.trans hy, rfl⟩, fun r s _ _ _ _ e => e, fun _ _ _ _ => rfl, fun _ _ _ hr => hr, by
  show σ.dfr = σ.dfr.map (PV.ren id)
  rw [← wey, renL_id], rfl⟩
def wsR (ρ : Nat → Nat) (o : Option Row) (y : Row) : Prop := match o with
 | some x => x.e = y.e ∧ x.k = y.k ∧ renL ρ x.els = y.els
 | none => False
def wo5 (ρ : Nat → Nat) (l : wac) : wac → Prop
 | [] => True
 | (s, y) :: m => wsR ρ (waa l s) y ∧ wo5 ρ l m
theorem wop {ρ : Nat → Nat} {l : wac} : ∀ {m : wac}, wo5 ρ l m → ∀ s y, (s, y) ∈ m → wsR ρ (waa l s) y
 | (r, x) :: m, h, s, y, hm => by
  rcases List.mem_cons.1 hm with hm | hm
  ·cases hm; exact h.1
  ·exact wop h.2 s y hm
theorem wss {ρ : Nat → Nat} {l m : wac} (h : wo5 ρ l m) (hall : wh9 m l) (r : Nat) : waa m r = waa (wcR ρ l) r := by
 rw [wfE]
 cases hm : waa m r with
 | some y =>
  have := wop h r y (waY hm)
  cases hl : waa l r with
  | none => rw [hl] at this; exact this.elim
  | some x =>
   rw [hl] at this
   obtain ⟨h2, h3, h4⟩ := this
   simp only [Option.map_some, Row.ren, h4]
   cases x; cases y; simp only at h2 h3; subst h2 h3; rfl
 | none =>
  cases hl : waa l r with
  | none => rfl
  | some x => have := whG hall r x (waY hl); rw [hm] at this; cases this
theorem ufc {α : Type} (c i q : Nat) {F : Nat → α → PV} {g : α → Row} [NestF F] [NestG g] {L : List α} (x : α) (l' : wac) {l : wac} {e' : List (Nat × PV)} (hi : i < L.length)
  (hs : σ.heap = waz c ((waL g L).set i none) l := by rfl) (hlow : wcI l := by (repeat' (first | exact trivial | decide | apply And.intro))) (hq : waa l q = some (g x) := by rfl) (hq1 : 1000 ≤ q := by decide) (hq2 : q < 1000000 := by decide)
  (hl : wo5 (unf c i q) (wbF [q] l) l') (hall : wh9 l' (wbF [q] l) := by (repeat' (first | exact trivial | exact rfl | apply And.intro))) (he : wgI (unf c i q) σ.env = e' := by rfl) (hd : σ.dfr = [] := by rfl) :
  Sub G N σ ⟨e', waz c (waL g (L.set i x)) l', σ.dfr, σ.gh⟩ := fun P B a w φ hr => by
 obtain ⟨φ, hr⟩ := Sub.unfocus (F := F) c i q x hi hs hlow hq hq1 hq2 rfl he hd P B a w φ hr
 refine Sub.same (fun r => ?_) P B a w φ hr
 simp only [waz, wd7, wss hl hall]
theorem psh {α : Type} (c R j : Nat) {F : Nat → α → PV} {g : α → Row} {L : List α} (x : α) {l l' : wac} {e k e1 k1 : Nat} {p : PV} {cs : List PV}
  (hs : σ.heap = waz c (waL g L) l := by rfl) (hlow : wcI l := by (repeat' (first | exact trivial | decide | apply And.intro))) (hR : waa l R = some ⟨e1, k1, wbt c F L ++ [p]⟩ := by rfl) (hk1 : 1 ≤ k1 := by decide) (hpb : wbp p = false := by rfl)
  (hg : g x = ⟨e, k, []⟩ := by rfl) (hk : 1 ≤ k := by decide) (hp : wdo p = true := by rfl) (hcs : way p = some cs := by rfl) (hi : cs[j]? = some (.d .nilslice) := by rfl) (hF : ∀ r, PV.agg (cs.set j (.slc r 0 0)) = F r x := by (intro r; rfl))
  (hl : waj l R ⟨e1, k1, wbt c F (L ++ [x])⟩ = l' := by (simp only [waj, ↓reduceIte, Nat.reduceEqDiff]; rfl)) : Sub G N σ ⟨σ.env, waz c (waL g (L ++ [x])) l', σ.dfr, σ.gh⟩ :=
 Sub.push c R e k x hs hlow hR hk1 hpb hg (fun w X φ H v h1 h2 h3 => hF _ ▸ wsq hp hcs hi hk h1 h2 h3) hl
theorem unn {α : Type} (c R : Nat) {F : Nat → α → PV} {g : α → Row} (pd : α → PD) [NestF F] [NestG g] [NestP F g pd] {L : List α} {l l' : wac} {e k : Nat}
  (hs : σ.heap = waz c (waL g L) l := by rfl) (hlow : wcI l := by (repeat' (first | exact trivial | decide | apply And.intro))) (hR : waa l R = some ⟨e, k, wbt c F L⟩ := by rfl)
  (henv : wjB σ.env := by (repeat' (first | exact trivial | exact rfl | apply And.intro))) (hrows : wlX R l := by (repeat' (first | exact trivial | exact .inl rfl | exact .inr rfl | exact .inr (by simp only [go_sem, List.all_nil]) | apply And.intro))) (hd : σ.dfr = [] := by rfl) (hgh : σ.gh = none := by rfl)
  (hl : waj l R ⟨e, k, dl (wab pd L)⟩ = l' := by (simp only [waj, ↓reduceIte, Nat.reduceEqDiff]; rfl)) : Sub G N σ ⟨σ.env, l', σ.dfr, σ.gh⟩ := Sub.unnest (F := F) c R pd hs hlow hR henv hrows hd hgh hl
theorem clD {α : Type} {nc : Nat} {g : α → Row} [NestG g] {L L' : List α} {c : Call} {f : FuncId} {xo : Operand} {caps args : List PV} {res : PV} {lH lH' lc : wac} {Q : St → Prop} (gl : List (Nat × Nat)) (gs : List Nat)
  (hf : ObjFn P G f args (waz nc (waL g L) lH) res (waz nc (waL g L') lH')) (h2 : AOps P G ro N ops rest σ' Q)
  (hd : wan N o.dst := by (simp only [go_sem, ↓reduceIte]; done)) (hg : ∀ {K : St → Prop}, OpT P G ro N o σ K → wfM P G ro N (wbm ops) o σ K := by (intro K k; simp (disch := omega) only [go_sem, ↓reduceIte]; exact k))
  (hs : σ.heap = waz nc (waL g L) lc := by rfl) (hlH : wcI lH := by (repeat' (first | exact trivial | decide | apply And.intro))) (hlH' : wcI lH' := by (repeat' (first | exact trivial | decide | apply And.intro))) (hlc : wcI lc := by (repeat' (first | exact trivial | decide | apply And.intro)))
  (hg1 : (gl.all fun p => decide (p.1 < 1000000)) = true := by rfl) (hg2 : (gl.all fun p => decide (p.2 < 1000000)) = true := by rfl)
  (ho : o.op = .call c := by rfl) (hc : c.callee = .value xo := by rfl) (hx : wcu (σ.eval xo) = some (f, caps) := by rfl) (hcal : wbu P f = true := by kernel_rfl)
  (hrow : wfh lc (wav gl) (waz nc (waL g L) lH) lH := by (simp (disch := decide) only [wfh, Row.ren, wnj]; simp only [go_sem, ↓reduceIte]; (repeat' (first | exact trivial | exact rfl | exact dyS rfl | exact waU (by (repeat' (first | exact trivial | decide | apply And.intro))) | (simp only [List.length_append, List.length_set, List.length_replicate, List.length_cons, List.length_nil, Nat.zero_add]; exact rfl) | apply And.intro))))
  (hinj : we0 (wav gl) lH := by (simp only [we0, wgF, go_sem, ↓reduceIte]; (repeat' (first | exact trivial | (intro h; cases h; done) | apply And.intro))))
  (hgs : wlk (wav gl) gs lH := by (simp only [wlk, go_sem, ↓reduceIte]; (repeat' (first | exact trivial | exact rfl | apply And.intro))))
  (him : wnU (wav gl) lH gs := by (repeat' (first | exact trivial | exact rfl | decide | apply And.intro))) (hgl : (gs.all fun p => decide (p < 1000000)) = true := by rfl)
  (henv : wii gs σ.env := by (repeat' (first | exact trivial | exact rfl | apply And.intro))) (henv2 : wjB σ.env := by (repeat' (first | exact trivial | exact rfl | apply And.intro))) (hdfr : σ.dfr = [] := by rfl)
  (hout : wha (wav gl) lH gs lc := by (repeat' (first | exact trivial | exact .inl rfl | exact .inr rfl | exact .inr (by simp only [go_sem, List.any_nil]) | apply And.intro)))
  (hout2 : wnl (wav gl) lH lc := by (repeat' (first | exact trivial | exact .inl rfl | exact .inr rfl | exact .inr (by simp only [go_sem, List.all_nil]) | apply And.intro)))
  (ha : wdp σ.heap (waz nc (waL g L) lH) (wav gl) (was σ c.args.toList ++ caps) args := by (repeat' (first | exact trivial | exact rfl | exact dyS rfl | apply And.intro | (simp only [go_sem, ↓reduceIte]; done))))
  (hback : whI lH (wav gl) gs (waz nc (waL g L') lH') lH' := by (simp only [whI, go_sem, ↓reduceIte]; (repeat' (first | exact trivial | exact rfl | exact dyS rfl | exact waU (by (repeat' (first | exact trivial | decide | apply And.intro))) | exact wnk | exact .inl trivial | exact .inl rfl | exact .inr rfl | decide | apply And.intro))))
  (hall : wh9 lH' lH := by (repeat' (first | exact trivial | exact rfl | apply And.intro))) (hinj2 : we0 (wav gl) lH' := by (simp only [we0, wgF, go_sem, ↓reduceIte]; (repeat' (first | exact trivial | (intro h; cases h; done) | apply And.intro))))
  (hp : ({ σ with heap := waz nc (waL g L') (wbW (wav gl) lH' (wbF gs lc)) } : St).put o.dst (res.ren (wav gl)) = σ' := by (simp (disch := decide) only [wbW, Row.ren, wnj]; simp only [wbF, go_sem, ↓reduceIte]; rfl))
  (hcl : clean res := by (simp only [clean, cleanL, and_self]; done)) (hrf : refsIn (waz nc (waL g L') lH') res := by (first | exact trivial | exact rfl | (simp only [go_sem, ↓reduceIte]; done))) :
  AOps P G ro N ops (o :: rest) σ Q :=
 AOps.consC hd fun K hK => hg (OpT.callD gl gs hf hs hlH hlH' hlc hg1 hg2 hd ho hc hx hcal hrow hinj hgs him hgl henv henv2 hdfr hout hout2 ha hback hall hinj2 hcl hrf (hp ▸ hK _ h2))
end
end Go.Pv

namespace Go.Pv
section
variable {P : Program} {G : List (Nat × PD)} {ro : Option Nat} {N : Nat} {xs : Exc} {σ : St} {o : Oper}
end
end Go.Pv

namespace Go.Pv
structure StringsBuilder where
 addr : Bool
 buf : (List Int)
deriving DecidableEq
instance : Inhabited StringsBuilder := ⟨⟨false, []⟩⟩
structure Band where
 Lo : Int
 Hi : Int
deriving DecidableEq
instance : Inhabited Band := ⟨⟨0, 0⟩⟩
def Band.pd (x : Band) : PD := .agg [(.int .i64 x.Lo), (.int .i64 x.Hi)]
attribute [go_sem] Band.pd
@[go_sem] theorem snoc_Band (l : List Band) (a0 : Int) (a1 : Int) : dl (wab Band.pd l) ++ [PV.d (PD.agg [(.int .i64 a0), (.int .i64 a1)])] = dl (wab Band.pd (l ++ [(⟨a0, a1⟩ : Band)])) := wde Band.pd l (⟨a0, a1⟩ : Band)
@[go_sem] theorem set_Band (l : List Band) (i : Nat) (a0 : Int) (a1 : Int) : (wab Band.pd l).set i (PD.agg [(.int .i64 a0), (.int .i64 a1)]) = wab Band.pd (l.set i (⟨a0, a1⟩ : Band)) := wdU Band.pd l i (⟨a0, a1⟩ : Band)
@[go_sem] theorem rep_Band (n : Nat) (a0 : Int) (a1 : Int) : List.replicate n (PD.agg [(.int .i64 a0), (.int .i64 a1)]) = wab Band.pd (List.replicate n (⟨a0, a1⟩ : Band)) := wez Band.pd n (⟨a0, a1⟩ : Band)
structure Rule where
 Bands : (List Band)
 Code : Int
deriving DecidableEq
instance : Inhabited Rule := ⟨⟨[], 0⟩⟩
def Rule.pd (x : Rule) : PD := .agg [(.imm 2 (wab Band.pd x.Bands)), (.int .i64 x.Code)]
attribute [go_sem] Rule.pd
@[go_sem] theorem snoc_Rule (l : List Rule) (a0 : (List Band)) (a1 : Int) : dl (wab Rule.pd l) ++ [PV.d (PD.agg [(.imm 2 (wab Band.pd a0)), (.int .i64 a1)])] = dl (wab Rule.pd (l ++ [(⟨a0, a1⟩ : Rule)])) := wde Rule.pd l (⟨a0, a1⟩ : Rule)
@[go_sem] theorem set_Rule (l : List Rule) (i : Nat) (a0 : (List Band)) (a1 : Int) : (wab Rule.pd l).set i (PD.agg [(.imm 2 (wab Band.pd a0)), (.int .i64 a1)]) = wab Rule.pd (l.set i (⟨a0, a1⟩ : Rule)) := wdU Rule.pd l i (⟨a0, a1⟩ : Rule)
@[go_sem] theorem rep_Rule (n : Nat) (a0 : (List Band)) (a1 : Int) : List.replicate n (PD.agg [(.imm 2 (wab Band.pd a0)), (.int .i64 a1)]) = wab Rule.pd (List.replicate n (⟨a0, a1⟩ : Rule)) := wez Rule.pd n (⟨a0, a1⟩ : Rule)
structure Arr3_Int where
 c0 : Int
 c1 : Int
 c2 : Int
deriving DecidableEq
instance : Inhabited Arr3_Int := ⟨⟨0, 0, 0⟩⟩
def Arr3_Int.pd (x : Arr3_Int) : PD := .agg [(.int .i64 x.c0), (.int .i64 x.c1), (.int .i64 x.c2)]
attribute [go_sem] Arr3_Int.pd
@[go_sem] theorem snoc_Arr3_Int (l : List Arr3_Int) (a0 : Int) (a1 : Int) (a2 : Int) : dl (wab Arr3_Int.pd l) ++ [PV.d (PD.agg [(.int .i64 a0), (.int .i64 a1), (.int .i64 a2)])] = dl (wab Arr3_Int.pd (l ++ [(⟨a0, a1, a2⟩ : Arr3_Int)])) := wde Arr3_Int.pd l (⟨a0, a1, a2⟩ : Arr3_Int)
@[go_sem] theorem set_Arr3_Int (l : List Arr3_Int) (i : Nat) (a0 : Int) (a1 : Int) (a2 : Int) : (wab Arr3_Int.pd l).set i (PD.agg [(.int .i64 a0), (.int .i64 a1), (.int .i64 a2)]) = wab Arr3_Int.pd (l.set i (⟨a0, a1, a2⟩ : Arr3_Int)) := wdU Arr3_Int.pd l i (⟨a0, a1, a2⟩ : Arr3_Int)
@[go_sem] theorem rep_Arr3_Int (n : Nat) (a0 : Int) (a1 : Int) (a2 : Int) : List.replicate n (PD.agg [(.int .i64 a0), (.int .i64 a1), (.int .i64 a2)]) = wab Arr3_Int.pd (List.replicate n (⟨a0, a1, a2⟩ : Arr3_Int)) := wez Arr3_Int.pd n (⟨a0, a1, a2⟩ : Arr3_Int)
structure Walker where
 k : Int
 s : (List Rule)
 t : (List Rule)
deriving DecidableEq
instance : Inhabited Walker := ⟨⟨0, [], []⟩⟩
def Walker.pd (x : Walker) : PD := .agg [(.int .i64 x.k), (.imm 2 (wab Rule.pd x.s)), (.imm 2 (wab Rule.pd x.t))]
attribute [go_sem] Walker.pd
@[go_sem] theorem snoc_Walker (l : List Walker) (a0 : Int) (a1 : (List Rule)) (a2 : (List Rule)) : dl (wab Walker.pd l) ++ [PV.d (PD.agg [(.int .i64 a0), (.imm 2 (wab Rule.pd a1)), (.imm 2 (wab Rule.pd a2))])] = dl (wab Walker.pd (l ++ [(⟨a0, a1, a2⟩ : Walker)])) := wde Walker.pd l (⟨a0, a1, a2⟩ : Walker)
@[go_sem] theorem set_Walker (l : List Walker) (i : Nat) (a0 : Int) (a1 : (List Rule)) (a2 : (List Rule)) : (wab Walker.pd l).set i (PD.agg [(.int .i64 a0), (.imm 2 (wab Rule.pd a1)), (.imm 2 (wab Rule.pd a2))]) = wab Walker.pd (l.set i (⟨a0, a1, a2⟩ : Walker)) := wdU Walker.pd l i (⟨a0, a1, a2⟩ : Walker)
@[go_sem] theorem rep_Walker (n : Nat) (a0 : Int) (a1 : (List Rule)) (a2 : (List Rule)) : List.replicate n (PD.agg [(.int .i64 a0), (.imm 2 (wab Rule.pd a1)), (.imm 2 (wab Rule.pd a2))]) = wab Walker.pd (List.replicate n (⟨a0, a1, a2⟩ : Walker)) := wez Walker.pd n (⟨a0, a1, a2⟩ : Walker)
structure Node where
 Mark : Int
 Cuts : (List Int)
 To : (List Int)
deriving DecidableEq
instance : Inhabited Node := ⟨⟨0, [], []⟩⟩
def Node.pd (x : Node) : PD := .agg [(.int .i64 x.Mark), (.imm 1 (wab (PD.int .i64) x.Cuts)), (.imm 1 (wab (PD.int .i64) x.To))]
attribute [go_sem] Node.pd
@[go_sem] theorem snoc_Node (l : List Node) (a0 : Int) (a1 : (List Int)) (a2 : (List Int)) : dl (wab Node.pd l) ++ [PV.d (PD.agg [(.int .i64 a0), (.imm 1 (wab (PD.int .i64) a1)), (.imm 1 (wab (PD.int .i64) a2))])] = dl (wab Node.pd (l ++ [(⟨a0, a1, a2⟩ : Node)])) := wde Node.pd l (⟨a0, a1, a2⟩ : Node)
@[go_sem] theorem set_Node (l : List Node) (i : Nat) (a0 : Int) (a1 : (List Int)) (a2 : (List Int)) : (wab Node.pd l).set i (PD.agg [(.int .i64 a0), (.imm 1 (wab (PD.int .i64) a1)), (.imm 1 (wab (PD.int .i64) a2))]) = wab Node.pd (l.set i (⟨a0, a1, a2⟩ : Node)) := wdU Node.pd l i (⟨a0, a1, a2⟩ : Node)
@[go_sem] theorem rep_Node (n : Nat) (a0 : Int) (a1 : (List Int)) (a2 : (List Int)) : List.replicate n (PD.agg [(.int .i64 a0), (.imm 1 (wab (PD.int .i64) a1)), (.imm 1 (wab (PD.int .i64) a2))]) = wab Node.pd (List.replicate n (⟨a0, a1, a2⟩ : Node)) := wez Node.pd n (⟨a0, a1, a2⟩ : Node)
structure Builder where
 k : Int
 rules : (List Rule)
 known : (List (Arr3_Int × Int))
 same : (List (ByteArray × Int))
 nodes : (List Node)
deriving DecidableEq
instance : Inhabited Builder := ⟨⟨0, [], [], [], []⟩⟩
structure Table where
 heads : (List Int)
 next : (List Int)
 keys : (List Arr3_Int)
deriving DecidableEq
instance : Inhabited Table := ⟨⟨[], [], []⟩⟩
def Table.pd (x : Table) : PD := .agg [(.imm 1 (wab (PD.int .i64) x.heads)), (.imm 1 (wab (PD.int .i64) x.next)), (.imm 3 (wab Arr3_Int.pd x.keys))]
attribute [go_sem] Table.pd
@[go_sem] theorem snoc_Table (l : List Table) (a0 : (List Int)) (a1 : (List Int)) (a2 : (List Arr3_Int)) : dl (wab Table.pd l) ++ [PV.d (PD.agg [(.imm 1 (wab (PD.int .i64) a0)), (.imm 1 (wab (PD.int .i64) a1)), (.imm 3 (wab Arr3_Int.pd a2))])] = dl (wab Table.pd (l ++ [(⟨a0, a1, a2⟩ : Table)])) := wde Table.pd l (⟨a0, a1, a2⟩ : Table)
@[go_sem] theorem set_Table (l : List Table) (i : Nat) (a0 : (List Int)) (a1 : (List Int)) (a2 : (List Arr3_Int)) : (wab Table.pd l).set i (PD.agg [(.imm 1 (wab (PD.int .i64) a0)), (.imm 1 (wab (PD.int .i64) a1)), (.imm 3 (wab Arr3_Int.pd a2))]) = wab Table.pd (l.set i (⟨a0, a1, a2⟩ : Table)) := wdU Table.pd l i (⟨a0, a1, a2⟩ : Table)
@[go_sem] theorem rep_Table (n : Nat) (a0 : (List Int)) (a1 : (List Int)) (a2 : (List Arr3_Int)) : List.replicate n (PD.agg [(.imm 1 (wab (PD.int .i64) a0)), (.imm 1 (wab (PD.int .i64) a1)), (.imm 3 (wab Arr3_Int.pd a2))]) = wab Table.pd (List.replicate n (⟨a0, a1, a2⟩ : Table)) := wez Table.pd n (⟨a0, a1, a2⟩ : Table)
structure Search where
 k : Int
 t : (List Rule)
 seen : Table
 many : (List (List Int))
 at_ : (List Int)
 nodes : (List Node)
deriving DecidableEq
instance : Inhabited Search := ⟨⟨0, [], ⟨[], [], []⟩, [], [], []⟩⟩
def Search.pd (x : Search) : PD := .agg [(.int .i64 x.k), (.imm 2 (wab Rule.pd x.t)), (.imm 1 (wab (PD.int .i64) x.seen.heads)), (.imm 1 (wab (PD.int .i64) x.seen.next)), (.imm 3 (wab Arr3_Int.pd x.seen.keys)), (.imm 1 (wab (wdj 1 (PD.int .i64)) x.many)), (.imm 1 (wab (PD.int .i64) x.at_)), (.imm 3 (wab Node.pd x.nodes))]
attribute [go_sem] Search.pd
@[go_sem] theorem snoc_Search (l : List Search) (a0 : Int) (a1 : (List Rule)) (a2 : (List Int)) (a3 : (List Int)) (a4 : (List Arr3_Int)) (a5 : (List (List Int))) (a6 : (List Int)) (a7 : (List Node)) : dl (wab Search.pd l) ++ [PV.d (PD.agg [(.int .i64 a0), (.imm 2 (wab Rule.pd a1)), (.imm 1 (wab (PD.int .i64) a2)), (.imm 1 (wab (PD.int .i64) a3)), (.imm 3 (wab Arr3_Int.pd a4)), (.imm 1 (wab (wdj 1 (PD.int .i64)) a5)), (.imm 1 (wab (PD.int .i64) a6)), (.imm 3 (wab Node.pd a7))])] = dl (wab Search.pd (l ++ [(⟨a0, a1, (⟨a2, a3, a4⟩ : Table), a5, a6, a7⟩ : Search)])) := wde Search.pd l (⟨a0, a1, (⟨a2, a3, a4⟩ : Table), a5, a6, a7⟩ : Search)
@[go_sem] theorem set_Search (l : List Search) (i : Nat) (a0 : Int) (a1 : (List Rule)) (a2 : (List Int)) (a3 : (List Int)) (a4 : (List Arr3_Int)) (a5 : (List (List Int))) (a6 : (List Int)) (a7 : (List Node)) : (wab Search.pd l).set i (PD.agg [(.int .i64 a0), (.imm 2 (wab Rule.pd a1)), (.imm 1 (wab (PD.int .i64) a2)), (.imm 1 (wab (PD.int .i64) a3)), (.imm 3 (wab Arr3_Int.pd a4)), (.imm 1 (wab (wdj 1 (PD.int .i64)) a5)), (.imm 1 (wab (PD.int .i64) a6)), (.imm 3 (wab Node.pd a7))]) = wab Search.pd (l.set i (⟨a0, a1, (⟨a2, a3, a4⟩ : Table), a5, a6, a7⟩ : Search)) := wdU Search.pd l i (⟨a0, a1, (⟨a2, a3, a4⟩ : Table), a5, a6, a7⟩ : Search)
@[go_sem] theorem rep_Search (n : Nat) (a0 : Int) (a1 : (List Rule)) (a2 : (List Int)) (a3 : (List Int)) (a4 : (List Arr3_Int)) (a5 : (List (List Int))) (a6 : (List Int)) (a7 : (List Node)) : List.replicate n (PD.agg [(.int .i64 a0), (.imm 2 (wab Rule.pd a1)), (.imm 1 (wab (PD.int .i64) a2)), (.imm 1 (wab (PD.int .i64) a3)), (.imm 3 (wab Arr3_Int.pd a4)), (.imm 1 (wab (wdj 1 (PD.int .i64)) a5)), (.imm 1 (wab (PD.int .i64) a6)), (.imm 3 (wab Node.pd a7))]) = wab Search.pd (List.replicate n (⟨a0, a1, (⟨a2, a3, a4⟩ : Table), a5, a6, a7⟩ : Search)) := wez Search.pd n (⟨a0, a1, (⟨a2, a3, a4⟩ : Table), a5, a6, a7⟩ : Search)
structure Compare where
 k : Int
 s : (List Rule)
 t : (List Rule)
 alike : Table
deriving DecidableEq
instance : Inhabited Compare := ⟨⟨0, [], [], ⟨[], [], []⟩⟩⟩
def Compare.pd (x : Compare) : PD := .agg [(.int .i64 x.k), (.imm 2 (wab Rule.pd x.s)), (.imm 2 (wab Rule.pd x.t)), (.imm 1 (wab (PD.int .i64) x.alike.heads)), (.imm 1 (wab (PD.int .i64) x.alike.next)), (.imm 3 (wab Arr3_Int.pd x.alike.keys))]
attribute [go_sem] Compare.pd
@[go_sem] theorem snoc_Compare (l : List Compare) (a0 : Int) (a1 : (List Rule)) (a2 : (List Rule)) (a3 : (List Int)) (a4 : (List Int)) (a5 : (List Arr3_Int)) : dl (wab Compare.pd l) ++ [PV.d (PD.agg [(.int .i64 a0), (.imm 2 (wab Rule.pd a1)), (.imm 2 (wab Rule.pd a2)), (.imm 1 (wab (PD.int .i64) a3)), (.imm 1 (wab (PD.int .i64) a4)), (.imm 3 (wab Arr3_Int.pd a5))])] = dl (wab Compare.pd (l ++ [(⟨a0, a1, a2, (⟨a3, a4, a5⟩ : Table)⟩ : Compare)])) := wde Compare.pd l (⟨a0, a1, a2, (⟨a3, a4, a5⟩ : Table)⟩ : Compare)
@[go_sem] theorem set_Compare (l : List Compare) (i : Nat) (a0 : Int) (a1 : (List Rule)) (a2 : (List Rule)) (a3 : (List Int)) (a4 : (List Int)) (a5 : (List Arr3_Int)) : (wab Compare.pd l).set i (PD.agg [(.int .i64 a0), (.imm 2 (wab Rule.pd a1)), (.imm 2 (wab Rule.pd a2)), (.imm 1 (wab (PD.int .i64) a3)), (.imm 1 (wab (PD.int .i64) a4)), (.imm 3 (wab Arr3_Int.pd a5))]) = wab Compare.pd (l.set i (⟨a0, a1, a2, (⟨a3, a4, a5⟩ : Table)⟩ : Compare)) := wdU Compare.pd l i (⟨a0, a1, a2, (⟨a3, a4, a5⟩ : Table)⟩ : Compare)
@[go_sem] theorem rep_Compare (n : Nat) (a0 : Int) (a1 : (List Rule)) (a2 : (List Rule)) (a3 : (List Int)) (a4 : (List Int)) (a5 : (List Arr3_Int)) : List.replicate n (PD.agg [(.int .i64 a0), (.imm 2 (wab Rule.pd a1)), (.imm 2 (wab Rule.pd a2)), (.imm 1 (wab (PD.int .i64) a3)), (.imm 1 (wab (PD.int .i64) a4)), (.imm 3 (wab Arr3_Int.pd a5))]) = wab Compare.pd (List.replicate n (⟨a0, a1, a2, (⟨a3, a4, a5⟩ : Table)⟩ : Compare)) := wez Compare.pd n (⟨a0, a1, a2, (⟨a3, a4, a5⟩ : Table)⟩ : Compare)
def Node.npv (r : Nat) (x : Node) : PV := .agg [.d (.int .i64 x.Mark), .d (.imm 1 (wab (PD.int .i64) x.Cuts)), .slc r 0 x.To.length]
def Node.sub (x : Node) : Row := ⟨3, 1, dl (wab (PD.int .i64) x.To)⟩
attribute [go_sem] Node.npv
instance : NestF Node.npv where
 ren ρ r x := by simp [Node.npv, PV.ren, renL]
 rows r x s h := by simpa [Node.npv, rowsOf, rowsOfL] using h
 refs H r x h := by simp [Node.npv, refsIn, refsInL, h]
 kill q r x h := by simp [Node.npv, PV.kill, killL, h]
 clean r x := by simp [Node.npv, clean, cleanL]
 byte r x := rfl
instance : NestG Node.sub := ⟨fun x => ⟨Nat.le_of_ble_eq_true rfl, _, rfl⟩⟩
instance : NestP Node.npv Node.sub Node.pd := ⟨fun H r x h => by
 simp only [Node.npv, Node.pd, frz, frzL, h, Node.sub, dl_allD, lenc_take, List.drop_zero, List.take_length, Option.map_some]⟩
def whJ {α : Type} (l : List α) : Option (List α) := if l.length ≤ 4294967296 then some l else none
def wlo (o : StringsBuilder) (s : ByteArray) : Option StringsBuilder := wah (o.buf.length + s.size ≤ 4294967296) (some ⟨true, o.buf ++ wa4 s⟩)
def wgJ (o : StringsBuilder) (c : Int) : Option StringsBuilder := wah (o.buf.length + 1 ≤ 4294967296) (some ⟨true, o.buf ++ [c]⟩)
def wfP (o : StringsBuilder) : Option ByteArray := wah (wjA o.buf = true ∧ o.buf ≠ []) (some (ofI o.buf))
def wlY (n : Int) : Option ByteArray := wah (-9223372036854775808 ≤ n ∧ n ≤ 9223372036854775807) (some ⟨(Lib.itoa n).toArray⟩)
noncomputable def wcd (k1 : Int) (e1 : Rule) : Int → Option (Int ⊕ (Unit ⊕ Int)) := fun m1 =>
 cond (decide (m1 < k1))
  (
  (idx e1.Bands m1).bind fun e2 =>
  cond (decide (e2.Lo < 0))
   (
   some (.inr (.inr 2))
   )
   (
   cond (decide (e2.Hi ≤ e2.Lo))
    (
    some (.inr (.inr 2))
    )
    (
    cond (decide (1000 < e2.Hi))
     (
     some (.inr (.inr 2))
     )
     (
     some (.inl (IntKind.i64.wrap (m1 + 1)))
     )
    )
   )
  )
  (
  some (.inr (.inl ()))
  )
noncomputable def wce (k1 : Int) (t1 : (List Rule)) : Int → Option (Int ⊕ (Unit ⊕ Int)) := fun i1 =>
 cond (decide (i1 < (t1.length : Int)))
  (
  (
  (
   (idx t1 i1).bind fun e1 =>
   cond (((decide (¬(e1.Bands.length : Int) = k1)) || (decide (e1.Code < 0))) || (decide (99 < e1.Code)))
    (
    some (.inr 2)
    )
    (
    (
    (iter (wcd k1 e1) 0).bind fun x_33 => match x_33 with
      | (.inl y1) => some (.inl y1)
      | (.inr y2) => some (.inr y2)
    )
    )
   : Option (Unit ⊕ Int)).bind fun o_17 => match o_17 with
    | (.inl _) =>
      some (.inl (IntKind.i64.wrap (i1 + 1)))
    | (.inr y3) => some (.inr (.inr y3))
  )
  )
  (
  some (.inr (.inl ()))
  )
noncomputable def wdF (k1 : Int) (t1 : (List Rule)) : Option Int :=
 cond ((decide (k1 < 1)) || (decide (4 < k1)))
  (
  some 2
  )
  (
  cond (decide (24 < (t1.length : Int)))
   (
   some 3
   )
   (
   (
   (
    (
    (iter (wce k1 t1) 0).bind fun x_13 => match x_13 with
      | (.inl y4) => some (.inl y4)
      | (.inr y5) => some (.inr y5)
    )
    : Option (Unit ⊕ Int)).bind fun o_7 => match o_7 with
     | (.inl _) =>
       some 0
     | (.inr y6) => some y6
   )
   )
  )
noncomputable def wdb (t1 : (List Rule)) : Option Int :=
 wah (0 ≤ (t1.length : Int)) <|
 some (IntKind.i64.wrap ((IntKind.i64.wrap (1 * (2 ^ (min ((t1.length : Int)).toNat 64)))) - 1))
noncomputable def wa7 (l1 : (List Int)) (n1 : Int) : (Bool × Int × (List Int)) → Option ((Bool × Int × (List Int)) ⊕ (Bool × (List Int))) := fun (done2, i1, L2) =>
 cond (decide (i1 < (l1.length : Int)))
  (
  (
   ((cond (!done2)
    (
     (idx l1 i1).bind fun e1 =>
     some (decide (n1 ≤ e1))
    )
    (some false)
   ) : Option Bool).bind fun b1 =>
   cond b1
    (
    (idx l1 i1).bind fun e2 =>
    cond (decide (n1 < e2))
     (
     wah (L2.length + [n1].length ≤ 4294967296) <|
     some (true, (L2 ++ [n1]))
     )
     (
     some (true, L2)
     )
    )
    (
    some (done2, L2)
    )
   : Option (Bool × (List Int))).bind fun (done3, L3) =>
  (idx l1 i1).bind fun e3 =>
  wah (L3.length + [e3].length ≤ 4294967296) <|
  some (.inl (done3, (IntKind.i64.wrap (i1 + 1)), (L3 ++ [e3])))
  )
  (
  some (.inr (done2, L2))
  )
noncomputable def wdc (l1 : (List Int)) (n1 : Int) : Option (List Int) :=
 (
  (iter (wa7 l1 n1) (false, 0, [])).bind fun x_7 =>
  some x_7
  : Option (Bool × (List Int))).bind fun (done1, L1) =>
 (
  cond (!done1)
   (
   wah (L1.length + [n1].length ≤ 4294967296) <|
   some (L1 ++ [n1])
   )
   (
   some L1
   )
  : Option (List Int)).bind fun L4 =>
 some L4
noncomputable def wcf (t1 : (List Rule)) (mark1 : Int) (set1 : Int) : ((List Int) × Int) → Option (((List Int) × Int) ⊕ (List Int)) := fun (out2, i1) =>
 cond (decide (i1 < (t1.length : Int)))
  (
  (
   wah (0 ≤ i1) <|
   cond (decide (((set1.fdiv (2 ^ (min (i1).toNat 64))).tmod 2) = 1))
    (
    (
     (idx t1 i1).bind fun e1 =>
     (idx e1.Bands mark1).bind fun e2 =>
     cond (decide (0 < e2.Lo))
      (
      (idx t1 i1).bind fun e3 =>
      (idx e3.Bands mark1).bind fun e4 =>
      (wdc out2 e4.Lo).bind fun r1 =>
      some r1
      )
      (
      some out2
      )
     : Option (List Int)).bind fun out4 =>
    (idx t1 i1).bind fun e5 =>
    (idx e5.Bands mark1).bind fun e6 =>
    (wdc out4 e6.Hi).bind fun r2 =>
    some r2
    )
    (
    some out2
    )
   : Option (List Int)).bind fun out3 =>
  some (.inl (out3, (IntKind.i64.wrap (i1 + 1))))
  )
  (
  some (.inr out2)
  )
noncomputable def wdG (t1 : (List Rule)) (mark1 : Int) (set1 : Int) : Option (List Int) :=
 (
  (iter (wcf t1 mark1 set1) ([1000], 0)).bind fun x_7 =>
  some x_7
  : Option (List Int)).bind fun out1 =>
 some out1
noncomputable def waw (k1 : Int) (t1 : (List Rule)) (most1 : Int) : (Int × Int) → Option ((Int × Int) ⊕ Int) := fun (out2, m1) =>
 cond ((decide (m1 < k1)) && (decide (out2 < most1)))
  (
  (wdb t1).bind fun r2 =>
  (wdG t1 m1 r2).bind fun r3 =>
  some (.inl ((IntKind.i64.wrap (out2 * (r3.length : Int))), (IntKind.i64.wrap (m1 + 1))))
  )
  (
  some (.inr out2)
  )
noncomputable def wcv (k1 : Int) (t1 : (List Rule)) (most1 : Int) : Option Int :=
 (wdF k1 t1).bind fun r1 =>
 cond (decide (¬r1 = 0))
  (
  some 0
  )
  (
  (
   (iter (waw k1 t1 most1) (1, 0)).bind fun x_10 =>
   some x_10
   : Option Int).bind fun out1 =>
  some out1
  )
noncomputable def waG (t1 : (List Rule)) : Int → Option (Int ⊕ (Unit ⊕ Bool)) := fun i1 =>
 cond (decide (i1 < (t1.length : Int)))
  (
  ((cond (decide (40 ≤ i1))
   (some true)
   (
    (idx t1 i1).bind fun e1 =>
    some (decide (20 < (e1.Bands.length : Int)))
   )
  ) : Option Bool).bind fun b1 =>
  cond b1
   (
   some (.inr (.inr false))
   )
   (
   some (.inl (IntKind.i64.wrap (i1 + 1)))
   )
  )
  (
  some (.inr (.inl ()))
  )
noncomputable def wb5 (k1 : Int) (t1 : (List Rule)) : Option Bool :=
 (
 (
  (
  (iter (waG t1) 0).bind fun x_7 => match x_7 with
    | (.inl y1) => some (.inl y1)
    | (.inr y2) => some (.inr y2)
  )
  : Option (Unit ⊕ Bool)).bind fun o_1 => match o_1 with
   | (.inl _) =>
     (wcv k1 t1 30000).bind fun r1 =>
     some (decide (r1 < 30000))
   | (.inr y3) => some y3
 )
noncomputable def wb7 : Option (List Rule) :=
 some [(⟨[(⟨0, 10⟩ : Band)], 1⟩ : Rule), (⟨[(⟨5, 20⟩ : Band)], 2⟩ : Rule), (⟨[(⟨0, 20⟩ : Band)], 3⟩ : Rule)]
noncomputable def wcS (k1 : Int) : Option Bool :=
 some ((decide (1 ≤ k1)) && (decide (k1 ≤ 4)))
noncomputable def wdO (b1 : Band) : Option Bool :=
 some (((decide (b1.Lo < 0)) || (decide (b1.Hi ≤ b1.Lo))) || (decide (1000 < b1.Hi)))
noncomputable def wbB (s1 : (List Band)) : Int → Option (Int ⊕ (Unit ⊕ Int)) := fun v1 =>
 cond (decide (v1 < (s1.length : Int)))
  (
  (idx s1 v1).bind fun e1 =>
  (wdO e1).bind fun r1 =>
  cond r1
   (
   some (.inr (.inr v1))
   )
   (
   some (.inl (IntKind.i64.wrap (v1 + 1)))
   )
  )
  (
  some (.inr (.inl ()))
  )
noncomputable def wa9 (s1 : (List Band)) : Option Int :=
 (
 (
  (
  (iter (wbB s1) 0).bind fun x_7 => match x_7 with
    | (.inl y1) => some (.inl y1)
    | (.inr y2) => some (.inr y2)
  )
  : Option (Unit ⊕ Int)).bind fun o_1 => match o_1 with
   | (.inl _) =>
     some (-1)
   | (.inr y3) => some y3
 )
noncomputable def waS (s1 : (List Band)) : Option Bool :=
 (wa9 s1).bind fun r1 =>
 some (decide (0 ≤ r1))
noncomputable def wdW (k1 : Int) (r1 : Rule) : Option Bool :=
 ((cond (((decide ((r1.Bands.length : Int) = k1)) && (decide (0 ≤ r1.Code))) && (decide (r1.Code ≤ 99)))
  (
   (waS r1.Bands).bind fun r2 =>
   some (!r2)
  )
  (some false)
 ) : Option Bool).bind fun b1 =>
 some b1
noncomputable def wbZ (r1 : Rule) (k1 : Int) : Option Bool :=
 (wdW k1 r1).bind fun r2 =>
 some (!r2)
noncomputable def wbO (s1 : (List Rule)) (f1 : Int) : Int → Option (Int ⊕ (Unit ⊕ Int)) := fun v1 =>
 cond (decide (v1 < (s1.length : Int)))
  (
  (idx s1 v1).bind fun e1 =>
  (wbZ e1 f1).bind fun r1 =>
  cond r1
   (
   some (.inr (.inr v1))
   )
   (
   some (.inl (IntKind.i64.wrap (v1 + 1)))
   )
  )
  (
  some (.inr (.inl ()))
  )
noncomputable def wbn (s1 : (List Rule)) (f1 : Int) : Option Int :=
 (
 (
  (
  (iter (wbO s1 f1) 0).bind fun x_7 => match x_7 with
    | (.inl y1) => some (.inl y1)
    | (.inr y2) => some (.inr y2)
  )
  : Option (Unit ⊕ Int)).bind fun o_1 => match o_1 with
   | (.inl _) =>
     some (-1)
   | (.inr y3) => some y3
 )
noncomputable def waO (s1 : (List Rule)) (f1 : Int) : Option Bool :=
 (wbn s1 f1).bind fun r1 =>
 some (decide (0 ≤ r1))
noncomputable def wbK (k1 : Int) (ts1 : (List (List Rule))) : Int → Option (Int ⊕ (Unit ⊕ Int)) := fun v1 =>
 cond (decide (v1 < (ts1.length : Int)))
  (
  (idx ts1 v1).bind fun e1 =>
  cond (decide (24 < (e1.length : Int)))
   (
   some (.inr (.inr 3))
   )
   (
   (waO e1 k1).bind fun r2 =>
   cond r2
    (
    some (.inr (.inr 2))
    )
    (
    some (.inl (IntKind.i64.wrap (v1 + 1)))
    )
   )
  )
  (
  some (.inr (.inl ()))
  )
noncomputable def wbr (k1 : Int) (ts1 : (List (List Rule))) : Option Int :=
 (wcS k1).bind fun r1 =>
 cond (!r1)
  (
  some 2
  )
  (
  (
  (
   (
   (iter (wbK k1 ts1) 0).bind fun x_10 => match x_10 with
     | (.inl y1) => some (.inl y1)
     | (.inr y2) => some (.inr y2)
   )
   : Option (Unit ⊕ Int)).bind fun o_4 => match o_4 with
    | (.inl _) =>
      some 0
    | (.inr y3) => some y3
  )
  )
noncomputable def wb1 (t1 : (List Rule)) : Option Int :=
 wah (0 ≤ (t1.length : Int)) <|
 some (IntKind.u32.wrap ((IntKind.u32.wrap (1 * (2 ^ (min ((t1.length : Int)).toNat 32)))) - 1))
noncomputable def wcM (mark1 : Int) (e1 : (List Rule)) : (Int × (List Int)) → Option ((Int × (List Int)) ⊕ (List Int)) := fun (v2, L4) =>
 cond (decide (v2 < (e1.length : Int)))
  (
  (idx e1 v2).bind fun e2 =>
  (idx e2.Bands mark1).bind fun e3 =>
  wah (L4.length + [e3.Lo, e3.Hi].length ≤ 4294967296) <|
  some (.inl ((IntKind.i64.wrap (v2 + 1)), (L4 ++ [e3.Lo, e3.Hi])))
  )
  (
  some (.inr L4)
  )
noncomputable def wcN (mark1 : Int) (ts1 : (List (List Rule))) : (Int × (List Int)) → Option ((Int × (List Int)) ⊕ (List Int)) := fun (v1, L2) =>
 cond (decide (v1 < (ts1.length : Int)))
  (
  (
   (idx ts1 v1).bind fun e1 =>
   (iter (wcM mark1 e1) (0, L2)).bind fun x_21 =>
   some x_21
   : Option (List Int)).bind fun L3 =>
  some (.inl ((IntKind.i64.wrap (v1 + 1)), L3))
  )
  (
  some (.inr L2)
  )
noncomputable def wa6 (mark1 : Int) (ts1 : (List (List Rule))) : Option (List Int) :=
 (
  (iter (wcN mark1 ts1) (0, [1000])).bind fun x_7 =>
  some x_7
  : Option (List Int)).bind fun L1 =>
 wah (L1.length ≤ 4294967296) <|
 wah ((sortI L1).length ≤ 4294967296) <|
 (
  (idx (List.take ((compactI (sortI L1)).length) (waJ (sortI L1))) 0).bind fun e4 =>
  cond (decide (e4 = 0))
   (
   wah (0 ≤ 1 ∧ 1 ≤ ((List.take ((compactI (sortI L1)).length) (waJ (sortI L1))).length : Int) ∧ ((List.take ((compactI (sortI L1)).length) (waJ (sortI L1))).length : Int) ≤ ((List.take ((compactI (sortI L1)).length) (waJ (sortI L1))).length : Int)) <|
   some (((List.take ((compactI (sortI L1)).length) (waJ (sortI L1))).drop 1).take ((((List.take ((compactI (sortI L1)).length) (waJ (sortI L1))).length : Int) : Int) - 1).toNat)
   )
   (
   some (List.take ((compactI (sortI L1)).length) (waJ (sortI L1)))
   )
  : Option (List Int)).bind fun out1 =>
 some out1
noncomputable def wcO (t1 : (List Rule)) (mark1 : Int) (value1 : Int) : (Int × Int) → Option ((Int × Int) ⊕ Int) := fun (out2, v1) =>
 cond (decide (v1 < (t1.length : Int)))
  (
  (
   (idx t1 v1).bind fun e1 =>
   (idx e1.Bands mark1).bind fun e2 =>
   cond ((decide (e2.Lo ≤ value1)) && (decide (value1 < e2.Hi)))
    (
    wah (0 ≤ v1) <|
    some (IntKind.u32.wrap ↑(BitVec.ofInt IntKind.u32.bits out2 ||| BitVec.ofInt IntKind.u32.bits (IntKind.u32.wrap (1 * (2 ^ (min (v1).toNat 32))))).toNat)
    )
    (
    some out2
    )
   : Option Int).bind fun out3 =>
  some (.inl (out3, (IntKind.i64.wrap (v1 + 1))))
  )
  (
  some (.inr out2)
  )
noncomputable def wbx (t1 : (List Rule)) (mark1 : Int) (value1 : Int) : Option Int :=
 (
  (iter (wcO t1 mark1 value1) (0, 0)).bind fun x_7 =>
  some x_7
  : Option Int).bind fun out1 =>
 some out1
noncomputable def wbs (s1 : Int) : Int → Option (Int ⊕ (Unit ⊕ Int)) := fun v1 =>
 cond (decide (v1 < 24))
  (
  wah (0 ≤ v1) <|
  cond (decide (¬(IntKind.u32.wrap ↑(BitVec.ofInt IntKind.u32.bits s1 &&& BitVec.ofInt IntKind.u32.bits (IntKind.u32.wrap (1 * (2 ^ (min (v1).toNat 32))))).toNat) = 0))
   (
   some (.inr (.inr v1))
   )
   (
   some (.inl (IntKind.i64.wrap (v1 + 1)))
   )
  )
  (
  some (.inr (.inl ()))
  )
noncomputable def waV (s1 : Int) : Option Int :=
 (
 (
  (
  (iter (wbs s1) 0).bind fun x_7 => match x_7 with
    | (.inl y1) => some (.inl y1)
    | (.inr y2) => some (.inr y2)
  )
  : Option (Unit ⊕ Int)).bind fun o_1 => match o_1 with
   | (.inl _) =>
     some (-1)
   | (.inr y3) => some y3
 )
noncomputable def wdD (from1 : Int) (e1 : Int) (r3 : ((List Int) × (List (Arr3_Int × (List Int))))) : (Int × (List Int)) → Option ((Int × (List Int)) ⊕ ((List (Arr3_Int × (List Int))) × (List Int))) := fun (v2, L5) =>
 cond (decide (v2 < (r3.1.length : Int)))
  (
  (idx r3.1 v2).bind fun e2 =>
  (idx L5 v2).bind fun e3 =>
  some (.inl ((IntKind.i64.wrap (v2 + 1)), (L5.set (v2).toNat (IntKind.i64.wrap (e3 + (IntKind.i64.wrap (e2 * (IntKind.i64.wrap (e1 - from1)))))))))
  )
  (
  some (.inr (r3.2, L5))
  )
noncomputable def wdE (mark1 : Int) (a1 : Int) (o1 : (List Rule)) (o2 : Int) (self : ((List Rule) → Int → (List (Arr3_Int × (List Int))) → Int → Int → Option ((List Int) × (List (Arr3_Int × (List Int)))))) (r1 : (List Int)) : (Int × Int × (List (Arr3_Int × (List Int))) × (List Int)) → Option ((Int × Int × (List (Arr3_Int × (List Int))) × (List Int)) ⊕ ((List (Arr3_Int × (List Int))) × (List Int))) := fun (from1, v1, M2, L2) =>
 cond (decide (v1 < (r1.length : Int)))
  (
  (
   (idx r1 v1).bind fun e1 =>
   (wbx o1 mark1 from1).bind fun r2 =>
   (
    cond (decide ((IntKind.i64.wrap (mark1 + 1)) < o2))
     (
     (self o1 o2 M2 (IntKind.i64.wrap (mark1 + 1)) (IntKind.u32.wrap ↑(BitVec.ofInt IntKind.u32.bits a1 &&& BitVec.ofInt IntKind.u32.bits r2).toNat)).bind fun r3 =>
     (iter (wdD from1 e1 r3) (0, L2)).bind fun x_30 =>
     some x_30
     )
     (
     (waV (IntKind.u32.wrap ↑(BitVec.ofInt IntKind.u32.bits a1 &&& BitVec.ofInt IntKind.u32.bits r2).toNat)).bind fun r4 =>
     cond (decide (r4 < 0))
      (
      (idx L2 (o1.length : Int)).bind fun e4 =>
      some (M2, (L2.set ((o1.length : Int)).toNat (IntKind.i64.wrap (e4 + (IntKind.i64.wrap (e1 - from1))))))
      )
      (
      (idx L2 r4).bind fun e5 =>
      some (M2, (L2.set (r4).toNat (IntKind.i64.wrap (e5 + (IntKind.i64.wrap (e1 - from1))))))
      )
     )
    : Option ((List (Arr3_Int × (List Int))) × (List Int))).bind fun (M4, L4) =>
   some (e1, M4, L4)
   : Option (Int × (List (Arr3_Int × (List Int))) × (List Int))).bind fun (from2, M3, L3) =>
  some (.inl (from2, (IntKind.i64.wrap (v1 + 1)), M3, L3))
  )
  (
  some (.inr (M2, L2))
  )
noncomputable def wcT (self : ((List Rule) → Int → (List (Arr3_Int × (List Int))) → Int → Int → Option ((List Int) × (List (Arr3_Int × (List Int)))))) (o1 : (List Rule)) (o2 : Int) (m1 : (List (Arr3_Int × (List Int)))) (mark1 : Int) (a1 : Int) : Option ((List Int) × (List (Arr3_Int × (List Int)))) :=
 cond ((waE (⟨mark1, (IntKind.i64.wrap a1), 0⟩ : Arr3_Int) m1).isSome)
  (
  some (((waE (⟨mark1, (IntKind.i64.wrap a1), 0⟩ : Arr3_Int) m1).getD []), m1)
  )
  (
  wah (0 ≤ (IntKind.i64.wrap ((o1.length : Int) + 1)) ∧ (IntKind.i64.wrap ((o1.length : Int) + 1)) ≤ 4294967296) <|
  (
   (wa6 mark1 [o1]).bind fun r1 =>
   (iter (wdE mark1 a1 o1 o2 self r1) (0, 0, m1, (List.replicate ((IntKind.i64.wrap ((o1.length : Int) + 1))).toNat (0 : Int)))).bind fun x_11 =>
   some x_11
   : Option ((List (Arr3_Int × (List Int))) × (List Int))).bind fun (M1, L1) =>
  some (L1, (wcC (⟨mark1, (IntKind.i64.wrap a1), 0⟩ : Arr3_Int) L1 M1))
  )
noncomputable def wdk : Nat → (List Rule) → Int → (List (Arr3_Int × (List Int))) → Int → Int → Option ((List Int) × (List (Arr3_Int × (List Int))))
 | 0 => fun _ _ _ _ _ => none
 | n + 1 => wcT (wdk n)
noncomputable def wet (k1 : Int) (t1 : (List Rule)) : Option (List Int) :=
 (wb1 t1).bind fun r1 =>
 (wdk 100 t1 k1 [] 0 r1).bind fun r2 =>
 (whJ r2.1).bind fun r3 =>
 some r3
noncomputable def we8 (t1 : (List Rule)) (r2 : (List Int)) : (Int × (List Int)) → Option ((Int × (List Int)) ⊕ (List Int)) := fun (v1, L2) =>
 cond (decide (v1 < ((r2.take (((t1.length : Int) : Int) - 0).toNat).length : Int)))
  (
  (
   (idx (r2.take (((t1.length : Int) : Int) - 0).toNat) v1).bind fun e1 =>
   cond (decide (e1 = 0))
    (
    wah (L2.length + [v1].length ≤ 4294967296) <|
    some (L2 ++ [v1])
    )
    (
    some L2
    )
   : Option (List Int)).bind fun L3 =>
  some (.inl ((IntKind.i64.wrap (v1 + 1)), L3))
  )
  (
  some (.inr L2)
  )
noncomputable def wfi (k1 : Int) (t1 : (List Rule)) : Option ((List Int) × Int) :=
 (wbr k1 [t1]).bind fun r1 =>
 cond (decide (¬r1 = 0))
  (
  some ([], r1)
  )
  (
  (
   (wet k1 t1).bind fun r2 =>
   wah (0 ≤ 0 ∧ 0 ≤ (t1.length : Int) ∧ (t1.length : Int) ≤ (r2.length : Int)) <|
   (iter (we8 t1 r2) (0, [])).bind fun x_12 =>
   some x_12
   : Option (List Int)).bind fun L1 =>
  some (L1, 0)
  )
noncomputable def weM (i1 : Int) (v1 : Int) : Option Bool :=
 some (decide (i1 < 0))
noncomputable def wb4 (mark1 : Int) (a1 : Int) (b1 : Int) (o1 : Walker) (self : (Walker → (List (Arr3_Int × Bool)) → Int → Int → Int → Option ((List Int) × Bool × (List (Arr3_Int × Bool))))) (r4 : (List Int)) : (Int × Int × (List (Arr3_Int × Bool))) → Option ((Int × Int × (List (Arr3_Int × Bool))) ⊕ ((List (Arr3_Int × Bool)) ⊕ ((List Int) × Bool × (List (Arr3_Int × Bool))))) := fun (from1, v1, M2) =>
 cond (decide (v1 < (r4.length : Int)))
  (
  (idx r4 v1).bind fun e1 =>
  (wbx o1.s mark1 from1).bind fun r5 =>
  (wbx o1.t mark1 from1).bind fun r6 =>
  (self o1 M2 (IntKind.i64.wrap (mark1 + 1)) (IntKind.u32.wrap ↑(BitVec.ofInt IntKind.u32.bits a1 &&& BitVec.ofInt IntKind.u32.bits r5).toNat) (IntKind.u32.wrap ↑(BitVec.ofInt IntKind.u32.bits b1 &&& BitVec.ofInt IntKind.u32.bits r6).toNat)).bind fun r7 =>
  cond r7.2.1
   (
   wah (1 + r7.1.length ≤ 4294967296) <|
   some (.inr (.inr (([from1] ++ r7.1), true, r7.2.2)))
   )
   (
   some (.inl (e1, (IntKind.i64.wrap (v1 + 1)), r7.2.2))
   )
  )
  (
  some (.inr (.inl M2))
  )
noncomputable def wbC (self : (Walker → (List (Arr3_Int × Bool)) → Int → Int → Int → Option ((List Int) × Bool × (List (Arr3_Int × Bool))))) (o1 : Walker) (m1 : (List (Arr3_Int × Bool))) (mark1 : Int) (a1 : Int) (b1 : Int) : Option ((List Int) × Bool × (List (Arr3_Int × Bool))) :=
 cond (decide (mark1 = o1.k))
  (
  (waV a1).bind fun r1 =>
  (waV b1).bind fun r2 =>
  (weM r1 r2).bind fun r3 =>
  some ([], r3, m1)
  )
  (
  cond ((waE (⟨mark1, (IntKind.i64.wrap a1), (IntKind.i64.wrap b1)⟩ : Arr3_Int) m1).getD false)
   (
   some ([], false, m1)
   )
   (
   (
   (
    (wa6 mark1 [o1.s, o1.t]).bind fun r4 =>
    (
    (iter (wb4 mark1 a1 b1 o1 self r4) (0, 0, m1)).bind fun x_15 => match x_15 with
      | (.inl y1) => some (.inl y1)
      | (.inr y2) => some (.inr y2)
    )
    : Option ((List (Arr3_Int × Bool)) ⊕ ((List Int) × Bool × (List (Arr3_Int × Bool))))).bind fun o_8 => match o_8 with
     | (.inl M1) =>
       some ([], false, (wcC (⟨mark1, (IntKind.i64.wrap a1), (IntKind.i64.wrap b1)⟩ : Arr3_Int) true M1))
     | (.inr y3) => some y3
   )
   )
  )
noncomputable def wbP : Nat → Walker → (List (Arr3_Int × Bool)) → Int → Int → Int → Option ((List Int) × Bool × (List (Arr3_Int × Bool)))
 | 0 => fun _ _ _ _ _ => none
 | n + 1 => wbC (wbP n)
noncomputable def wco (w1 : Walker) : Option ((List Int) × Bool) :=
 (wb1 w1.s).bind fun r1 =>
 (wb1 w1.t).bind fun r2 =>
 (wbP 100 w1 [] 0 r1 r2).bind fun r3 =>
 some (r3.1, r3.2.1)
noncomputable def wdq (l1 : (List Int)) (ok1 : Bool) : Option ((List Int) × Int) :=
 cond (!ok1)
  (
  some ([], 10)
  )
  (
  some (l1, 0)
  )
noncomputable def wfF (k1 : Int) (t1 : (List Rule)) : Option ((List Int) × Int) :=
 (wbr k1 [t1]).bind fun r1 =>
 cond (decide (¬r1 = 0))
  (
  some ([], r1)
  )
  (
  (wco (⟨k1, t1, []⟩ : Walker)).bind fun r2 =>
  (wdq r2.1 r2.2).bind fun r3 =>
  some (r3.1, r3.2)
  )
noncomputable def wbv (o1 : Builder) (a1 : Int) : Option (Int × Builder) :=
 (waV a1).bind fun r1 =>
 cond (decide (r1 < 0))
  (
  some ((-1), o1)
  )
  (
  (idx o1.rules r1).bind fun e1 =>
  some ((IntKind.i64.wrap ((-2) - e1.Code)), o1)
  )
noncomputable def wbq (ends1 : (List Int)) (to1 : (List Int)) : (Int × (List Int) × (List Int)) → Option ((Int × (List Int) × (List Int)) ⊕ ((List Int) × (List Int))) := fun (v1, L3, L4) =>
 cond (decide (v1 < (to1.length : Int)))
  (
  (
   (idx to1 v1).bind fun e1 =>
   ((cond (decide (0 < (L4.length : Int)))
    (
     (idx L4 (IntKind.i64.wrap ((L4.length : Int) - 1))).bind fun e2 =>
     some (decide (e2 = e1))
    )
    (some false)
   ) : Option Bool).bind fun b1 =>
   cond b1
    (
    (idx ends1 v1).bind fun e3 =>
    (idx L3 (IntKind.i64.wrap ((L4.length : Int) - 1))).bind fun e4 =>
    some ((L3.set ((IntKind.i64.wrap ((L4.length : Int) - 1))).toNat e3), L4)
    )
    (
    (idx ends1 v1).bind fun e5 =>
    wah (L3.length + [e5].length ≤ 4294967296) <|
    wah (L4.length + [e1].length ≤ 4294967296) <|
    some ((L3 ++ [e5]), (L4 ++ [e1]))
    )
   : Option ((List Int) × (List Int))).bind fun (L5, L6) =>
  some (.inl ((IntKind.i64.wrap (v1 + 1)), L5, L6))
  )
  (
  some (.inr (L3, L4))
  )
noncomputable def wc5 (ends1 : (List Int)) (to1 : (List Int)) : Option ((List Int) × (List Int)) :=
 (
  (iter (wbq ends1 to1) (0, [], [])).bind fun x_7 =>
  some x_7
  : Option ((List Int) × (List Int))).bind fun (L1, L2) =>
 some (L1, L2)
noncomputable def waW (e1 : (List Int)) : (Int × Bool × (List Int)) → Option ((Int × Bool × (List Int)) ⊕ (Bool × (List Int))) := fun (v2, c5, L5) =>
 cond (decide (v2 < (e1.length : Int)))
  (
  (idx e1 v2).bind fun e2 =>
  (wlY e2).bind fun r1 =>
  wah (bsz r1 + bsz (⟨#[32]⟩ : ByteArray) ≤ 4294967296) <|
  (wlo (⟨c5, L5⟩ : StringsBuilder) (r1 ++ (⟨#[32]⟩ : ByteArray))).bind fun r2 =>
  some (.inl ((IntKind.i64.wrap (v2 + 1)), true, r2.buf))
  )
  (
  some (.inr (c5, L5))
  )
noncomputable def waM (x1 : Node) : (Int × Bool × (List Int)) → Option ((Int × Bool × (List Int)) ⊕ (Bool × (List Int))) := fun (v1, c2, L2) =>
 cond (decide (v1 < ([[x1.Mark], x1.Cuts, x1.To].length : Int)))
  (
  (
   (idx [[x1.Mark], x1.Cuts, x1.To] v1).bind fun e1 =>
   (
    (iter (waW e1) (0, c2, L2)).bind fun x_23 =>
    some x_23
    : Option (Bool × (List Int))).bind fun (c4, L4) =>
   (wgJ (⟨c4, L4⟩ : StringsBuilder) 124).bind fun r3 =>
   some (true, r3.buf)
   : Option (Bool × (List Int))).bind fun (c3, L3) =>
  some (.inl ((IntKind.i64.wrap (v1 + 1)), c3, L3))
  )
  (
  some (.inr (c2, L2))
  )
noncomputable def wa1 (o1 : Builder) (x1 : Node) : Option (Int × Builder) :=
 (
  (iter (waM x1) (0, false, [])).bind fun x_7 =>
  some x_7
  : Option (Bool × (List Int))).bind fun (c1, L1) =>
 (wfP (⟨c1, L1⟩ : StringsBuilder)).bind fun r4 =>
 (
  cond (!((waE r4 o1.same).isSome))
   (
   (wfP (⟨c1, L1⟩ : StringsBuilder)).bind fun r5 =>
   wah (o1.nodes.length + [x1].length ≤ 4294967296) <|
   some ((o1.nodes.length : Int), (wcC r5 (o1.nodes.length : Int) o1.same), (o1.nodes ++ [x1]))
   )
   (
   some (((waE r4 o1.same).getD 0), o1.same, o1.nodes)
   )
  : Option (Int × (List (ByteArray × Int)) × (List Node))).bind fun (n1, M1, L6) =>
 some (n1, (⟨o1.k, o1.rules, o1.known, M1, L6⟩ : Builder))
noncomputable def wba (mark1 : Int) (a1 : Int) (self : (Builder → Int → Int → Option (Int × Builder))) (r2 : (List Int)) : (Int × Int × Int × (List Rule) × (List (Arr3_Int × Int)) × (List (ByteArray × Int)) × (List Node) × (List Int)) → Option ((Int × Int × Int × (List Rule) × (List (Arr3_Int × Int)) × (List (ByteArray × Int)) × (List Node) × (List Int)) ⊕ (Int × (List Rule) × (List (Arr3_Int × Int)) × (List (ByteArray × Int)) × (List Node) × (List Int))) := fun (from1, v1, c3, c4, M3, M4, L3, L4) =>
 cond (decide (v1 < (r2.length : Int)))
  (
  (idx r2 v1).bind fun e1 =>
  (wbx c4 mark1 from1).bind fun r3 =>
  (self (⟨c3, c4, M3, M4, L3⟩ : Builder) (IntKind.i64.wrap (mark1 + 1)) (IntKind.u32.wrap ↑(BitVec.ofInt IntKind.u32.bits a1 &&& BitVec.ofInt IntKind.u32.bits r3).toNat)).bind fun r4 =>
  wah (L4.length + [r4.1].length ≤ 4294967296) <|
  some (.inl (e1, (IntKind.i64.wrap (v1 + 1)), r4.2.k, r4.2.rules, r4.2.known, r4.2.same, r4.2.nodes, (L4 ++ [r4.1])))
  )
  (
  some (.inr (c3, c4, M3, M4, L3, L4))
  )
noncomputable def wbw (self : (Builder → Int → Int → Option (Int × Builder))) (o1 : Builder) (mark1 : Int) (a1 : Int) : Option (Int × Builder) :=
 cond (decide (mark1 = o1.k))
  (
  (wbv o1 a1).bind fun r1 =>
  some (r1.1, r1.2)
  )
  (
  cond ((waE (⟨mark1, (IntKind.i64.wrap a1), 0⟩ : Arr3_Int) o1.known).isSome)
   (
   some (((waE (⟨mark1, (IntKind.i64.wrap a1), 0⟩ : Arr3_Int) o1.known).getD 0), o1)
   )
   (
   (wa6 mark1 [o1.rules]).bind fun r2 =>
   (
    (iter (wba mark1 a1 self r2) (0, 0, o1.k, o1.rules, o1.known, o1.same, o1.nodes, [])).bind fun x_13 =>
    some x_13
    : Option (Int × (List Rule) × (List (Arr3_Int × Int)) × (List (ByteArray × Int)) × (List Node) × (List Int))).bind fun (c1, c2, M1, M2, L1, L2) =>
   (wc5 r2 L2).bind fun r5 =>
   (idx r5.2 0).bind fun e2 =>
   (
    cond (decide (1 < (r5.2.length : Int)))
     (
     (wa1 (⟨c1, c2, M1, M2, L1⟩ : Builder) (⟨mark1, r5.1, r5.2⟩ : Node)).bind fun r6 =>
     some (r6.1, r6.2.k, r6.2.rules, r6.2.known, r6.2.same, r6.2.nodes)
     )
     (
     some (e2, c1, c2, M1, M2, L1)
     )
    : Option (Int × Int × (List Rule) × (List (Arr3_Int × Int)) × (List (ByteArray × Int)) × (List Node))).bind fun (n1, c5, c6, M5, M6, L5) =>
   some (n1, (⟨c5, c6, (wcC (⟨mark1, (IntKind.i64.wrap a1), 0⟩ : Arr3_Int) n1 M5), M6, L5⟩ : Builder))
   )
  )
noncomputable def waZ : Nat → Builder → Int → Int → Option (Int × Builder)
 | 0 => fun _ _ _ => none
 | n + 1 => wbw (waZ n)
noncomputable def waI (l1 : (List Node)) (o1 : Builder) (self : ((List (Int × Int)) → (List Node) → Builder → Int → Option (Int × (List (Int × Int)) × (List Node)))) (e2 : Node) : (Int × (List (Int × Int)) × (List Node)) → Option ((Int × (List (Int × Int)) × (List Node)) ⊕ ((List (Int × Int)) × (List Node))) := fun (v1, M2, L2) =>
 cond (decide (v1 < (e2.To.length : Int)))
  (
  (idx e2.To v1).bind fun e3 =>
  (self M2 L2 o1 e3).bind fun r2 =>
  (idx r2.2.2 (l1.length : Int)).bind fun e4 =>
  wah (e4.To.length + [r2.1].length ≤ 4294967296) <|
  some (.inl ((IntKind.i64.wrap (v1 + 1)), r2.2.1, (r2.2.2.set (((l1.length : Int)).toNat) (⟨e4.Mark, e4.Cuts, (e4.To ++ [r2.1])⟩ : Node))))
  )
  (
  some (.inr (M2, L2))
  )
noncomputable def waT (self : ((List (Int × Int)) → (List Node) → Builder → Int → Option (Int × (List (Int × Int)) × (List Node)))) (m1 : (List (Int × Int))) (l1 : (List Node)) (o1 : Builder) (n1 : Int) : Option (Int × (List (Int × Int)) × (List Node)) :=
 cond (decide (n1 < 0))
  (
  some (n1, m1, l1)
  )
  (
  cond ((waE n1 m1).isSome)
   (
   some (((waE n1 m1).getD 0), m1, l1)
   )
   (
   (idx o1.nodes n1).bind fun e1 =>
   (whJ e1.Cuts).bind fun r1 =>
   wah (l1.length + 1 ≤ 4294967296) <|
   (
    (idx o1.nodes n1).bind fun e2 =>
    (iter (waI l1 o1 self e2) (0, (wcC n1 (l1.length : Int) m1), (l1 ++ [(⟨e1.Mark, r1, []⟩ : Node)]))).bind fun x_21 =>
    some x_21
    : Option ((List (Int × Int)) × (List Node))).bind fun (M1, L1) =>
   some ((l1.length : Int), M1, L1)
   )
  )
noncomputable def waH : Nat → (List (Int × Int)) → (List Node) → Builder → Int → Option (Int × (List (Int × Int)) × (List Node))
 | 0 => fun _ _ _ _ => none
 | n + 1 => waT (waH n)
noncomputable def waX (o1 : Builder) (top1 : Int) : Option ((List Node) × Builder) :=
 (waH 100 [] [] o1 top1).bind fun r1 =>
 some (r1.2.2, o1)
noncomputable def wbj (k1 : Int) (t1 : (List Rule)) : Option ((List Node) × Int) :=
 (wbr k1 [t1]).bind fun r1 =>
 cond (decide (¬r1 = 0))
  (
  some ([], r1)
  )
  (
  (wb1 t1).bind fun r2 =>
  (waZ 100 (⟨k1, t1, [], [], []⟩ : Builder) 0 r2).bind fun r3 =>
  cond (decide (r3.1 < 0))
   (
   some ([(⟨0, [1000], [r3.1]⟩ : Node)], 0)
   )
   (
   (waX r3.2 r3.1).bind fun r4 =>
   some (r4.1, 0)
   )
  )
noncomputable def waP (a1 : (List Int)) (b1 : (List Int)) : Int → Option (Int ⊕ (Unit ⊕ Bool)) := fun i1 =>
 cond (decide (i1 < (a1.length : Int)))
  (
  (idx a1 i1).bind fun e1 =>
  (idx b1 i1).bind fun e2 =>
  cond (decide (¬e1 = e2))
   (
   some (.inr (.inr false))
   )
   (
   some (.inl (IntKind.i64.wrap (i1 + 1)))
   )
  )
  (
  some (.inr (.inl ()))
  )
noncomputable def wbb (a1 : (List Int)) (b1 : (List Int)) : Option Bool :=
 cond (decide (¬(a1.length : Int) = (b1.length : Int)))
  (
  some false
  )
  (
  (
  (
   (
   (iter (waP a1 b1) 0).bind fun x_9 => match x_9 with
     | (.inl y1) => some (.inl y1)
     | (.inr y2) => some (.inr y2)
   )
   : Option (Unit ⊕ Bool)).bind fun o_3 => match o_3 with
    | (.inl _) =>
      some true
    | (.inr y3) => some y3
  )
  )
noncomputable def wbL : Option Bool :=
 (wb7).bind fun r1 =>
 (wfi 1 r1).bind fun r2 =>
 (wb7).bind fun r3 =>
 (wfF 1 r3).bind fun r4 =>
 (wb7).bind fun r5 =>
 (wbj 1 r5).bind fun r6 =>
 ((cond (decide (r2.2 = 0))
  (
   (wbb r2.1 [2]).bind fun r7 =>
   some r7
  )
  (some false)
 ) : Option Bool).bind fun b1 =>
 ((cond (b1 && (decide (r4.2 = 0)))
  (
   (wbb r4.1 [20]).bind fun r8 =>
   some r8
  )
  (some false)
 ) : Option Bool).bind fun b2 =>
 ((cond ((b2 && (decide (r6.2 = 0))) && (decide ((r6.1.length : Int) = 1)))
  (
   (idx r6.1 0).bind fun e1 =>
   (wbb e1.To [(-3), (-4), (-1)]).bind fun r9 =>
   some r9
  )
  (some false)
 ) : Option Bool).bind fun b3 =>
 some b3
noncomputable def wdd (t1 : (List Rule)) (i1 : Int) : Option Int :=
 cond (decide (i1 < 0))
  (
  some (-1)
  )
  (
  (idx t1 i1).bind fun e1 =>
  some e1.Code
  )
noncomputable def wdP (i1 : Int) (j1 : Int) (k1 : (List Rule)) (k2 : (List Rule)) : Option Bool :=
 (wdd k1 i1).bind fun r1 =>
 (wdd k2 j1).bind fun r2 =>
 some (decide (¬r1 = r2))
noncomputable def wbe (mark1 : Int) (a1 : Int) (b1 : Int) (o1 : Walker) (o2 : (List Rule)) (o3 : (List Rule)) (self : (Walker → (List Rule) → (List Rule) → (List (Arr3_Int × Bool)) → Int → Int → Int → Option ((List Int) × Bool × (List (Arr3_Int × Bool))))) (r4 : (List Int)) : (Int × Int × (List (Arr3_Int × Bool))) → Option ((Int × Int × (List (Arr3_Int × Bool))) ⊕ ((List (Arr3_Int × Bool)) ⊕ ((List Int) × Bool × (List (Arr3_Int × Bool))))) := fun (from1, v1, M2) =>
 cond (decide (v1 < (r4.length : Int)))
  (
  (idx r4 v1).bind fun e1 =>
  (wbx o1.s mark1 from1).bind fun r5 =>
  (wbx o1.t mark1 from1).bind fun r6 =>
  (self o1 o2 o3 M2 (IntKind.i64.wrap (mark1 + 1)) (IntKind.u32.wrap ↑(BitVec.ofInt IntKind.u32.bits a1 &&& BitVec.ofInt IntKind.u32.bits r5).toNat) (IntKind.u32.wrap ↑(BitVec.ofInt IntKind.u32.bits b1 &&& BitVec.ofInt IntKind.u32.bits r6).toNat)).bind fun r7 =>
  cond r7.2.1
   (
   wah (1 + r7.1.length ≤ 4294967296) <|
   some (.inr (.inr (([from1] ++ r7.1), true, r7.2.2)))
   )
   (
   some (.inl (e1, (IntKind.i64.wrap (v1 + 1)), r7.2.2))
   )
  )
  (
  some (.inr (.inl M2))
  )
noncomputable def wbl (self : (Walker → (List Rule) → (List Rule) → (List (Arr3_Int × Bool)) → Int → Int → Int → Option ((List Int) × Bool × (List (Arr3_Int × Bool))))) (o1 : Walker) (o2 : (List Rule)) (o3 : (List Rule)) (m1 : (List (Arr3_Int × Bool))) (mark1 : Int) (a1 : Int) (b1 : Int) : Option ((List Int) × Bool × (List (Arr3_Int × Bool))) :=
 cond (decide (mark1 = o1.k))
  (
  (waV a1).bind fun r1 =>
  (waV b1).bind fun r2 =>
  (wdP r1 r2 o2 o3).bind fun r3 =>
  some ([], r3, m1)
  )
  (
  cond ((waE (⟨mark1, (IntKind.i64.wrap a1), (IntKind.i64.wrap b1)⟩ : Arr3_Int) m1).getD false)
   (
   some ([], false, m1)
   )
   (
   (
   (
    (wa6 mark1 [o1.s, o1.t]).bind fun r4 =>
    (
    (iter (wbe mark1 a1 b1 o1 o2 o3 self r4) (0, 0, m1)).bind fun x_15 => match x_15 with
      | (.inl y1) => some (.inl y1)
      | (.inr y2) => some (.inr y2)
    )
    : Option ((List (Arr3_Int × Bool)) ⊕ ((List Int) × Bool × (List (Arr3_Int × Bool))))).bind fun o_8 => match o_8 with
     | (.inl M1) =>
       some ([], false, (wcC (⟨mark1, (IntKind.i64.wrap a1), (IntKind.i64.wrap b1)⟩ : Arr3_Int) true M1))
     | (.inr y3) => some y3
   )
   )
  )
noncomputable def waq : Nat → Walker → (List Rule) → (List Rule) → (List (Arr3_Int × Bool)) → Int → Int → Int → Option ((List Int) × Bool × (List (Arr3_Int × Bool)))
 | 0 => fun _ _ _ _ _ _ _ => none
 | n + 1 => wbl (waq n)
noncomputable def wcw (w1 : Walker) (wanted1 : (List Rule)) (wanted2 : (List Rule)) : Option ((List Int) × Bool) :=
 (wb1 w1.s).bind fun r1 =>
 (wb1 w1.t).bind fun r2 =>
 (waq 100 w1 wanted1 wanted2 [] 0 r1 r2).bind fun r3 =>
 some (r3.1, r3.2.1)
noncomputable def weu (k1 : Int) (s1 : (List Rule)) (t1 : (List Rule)) : Option ((List Int) × Bool) :=
 (wcw (⟨k1, s1, t1⟩ : Walker) s1 t1).bind fun r1 =>
 some (r1.1, r1.2)
noncomputable def wbT (k1 : Int) (s1 : (List Rule)) (t1 : (List Rule)) : Option ((List Int) × Int) :=
 (wbr k1 [s1, t1]).bind fun r1 =>
 cond (decide (¬r1 = 0))
  (
  some ([], r1)
  )
  (
  (weu k1 s1 t1).bind fun r2 =>
  (wdq r2.1 r2.2).bind fun r3 =>
  some (r3.1, r3.2)
  )
noncomputable def we9 (n1 : Int) : Option Bool :=
 some ((decide (n1 < 0)) || (decide (999 < n1)))
noncomputable def wdr (s1 : (List Int)) : Int → Option (Int ⊕ (Unit ⊕ Int)) := fun v1 =>
 cond (decide (v1 < (s1.length : Int)))
  (
  (idx s1 v1).bind fun e1 =>
  (we9 e1).bind fun r1 =>
  cond r1
   (
   some (.inr (.inr v1))
   )
   (
   some (.inl (IntKind.i64.wrap (v1 + 1)))
   )
  )
  (
  some (.inr (.inl ()))
  )
noncomputable def wcb (s1 : (List Int)) : Option Int :=
 (
 (
  (
  (iter (wdr s1) 0).bind fun x_7 => match x_7 with
    | (.inl y1) => some (.inl y1)
    | (.inr y2) => some (.inr y2)
  )
  : Option (Unit ⊕ Int)).bind fun o_1 => match o_1 with
   | (.inl _) =>
     some (-1)
   | (.inr y3) => some y3
 )
noncomputable def wcx (s1 : (List Int)) : Option Bool :=
 (wcb s1).bind fun r1 =>
 some (decide (0 ≤ r1))
noncomputable def wd9 (k1 : Int) (l1 : (List Int)) : Option Bool :=
 ((cond (decide ((l1.length : Int) = k1))
  (
   (wcx l1).bind fun r1 =>
   some (!r1)
  )
  (some false)
 ) : Option Bool).bind fun b1 =>
 some b1
noncomputable def wbY (r1 : Rule) (k1 : (List Int)) : Int → Option (Int ⊕ (Unit ⊕ Bool)) := fun v1 =>
 cond (decide (v1 < (r1.Bands.length : Int)))
  (
  (idx r1.Bands v1).bind fun e1 =>
  (idx k1 v1).bind fun e2 =>
  cond (decide (e2 < e1.Lo))
   (
   some (.inr (.inr false))
   )
   (
   cond (decide (e1.Hi ≤ e2))
    (
    some (.inr (.inr false))
    )
    (
    some (.inl (IntKind.i64.wrap (v1 + 1)))
    )
   )
  )
  (
  some (.inr (.inl ()))
  )
noncomputable def wcy (r1 : Rule) (k1 : (List Int)) : Option Bool :=
 (
 (
  (
  (iter (wbY r1 k1) 0).bind fun x_7 => match x_7 with
    | (.inl y1) => some (.inl y1)
    | (.inr y2) => some (.inr y2)
  )
  : Option (Unit ⊕ Bool)).bind fun o_1 => match o_1 with
   | (.inl _) =>
     some true
   | (.inr y3) => some y3
 )
noncomputable def wdg (s1 : (List Rule)) (f1 : (List Int)) : Int → Option (Int ⊕ (Unit ⊕ Int)) := fun v1 =>
 cond (decide (v1 < (s1.length : Int)))
  (
  (idx s1 v1).bind fun e1 =>
  (wcy e1 f1).bind fun r1 =>
  cond r1
   (
   some (.inr (.inr v1))
   )
   (
   some (.inl (IntKind.i64.wrap (v1 + 1)))
   )
  )
  (
  some (.inr (.inl ()))
  )
noncomputable def wcJ (s1 : (List Rule)) (f1 : (List Int)) : Option Int :=
 (
 (
  (
  (iter (wdg s1 f1) 0).bind fun x_7 => match x_7 with
    | (.inl y1) => some (.inl y1)
    | (.inr y2) => some (.inr y2)
  )
  : Option (Unit ⊕ Int)).bind fun o_1 => match o_1 with
   | (.inl _) =>
     some (-1)
   | (.inr y3) => some y3
 )
noncomputable def wee (t1 : (List Rule)) (l1 : (List Int)) : Option Int :=
 (wcJ t1 l1).bind fun r1 =>
 some r1
noncomputable def weq (k1 : Int) (t1 : (List Rule)) (l1 : (List Int)) : Option (Int × Int × Int) :=
 (wbr k1 [t1]).bind fun r1 =>
 cond (decide (¬r1 = 0))
  (
  some (0, 0, r1)
  )
  (
  (wd9 k1 l1).bind fun r2 =>
  cond (!r2)
   (
   some (0, 0, 2)
   )
   (
   (wee t1 l1).bind fun r3 =>
   cond (decide (r3 < 0))
    (
    some (0, 0, 6)
    )
    (
    (idx t1 r3).bind fun e1 =>
    some (e1.Code, r3, 0)
    )
   )
  )
noncomputable def wds (d1 : (List Node)) (x1 : Node) : (Int × Int) → Option ((Int × Int) ⊕ (Unit ⊕ Bool)) := fun (last1, v1) =>
 cond (decide (v1 < (x1.Cuts.length : Int)))
  (
  (idx x1.Cuts v1).bind fun e2 =>
  cond (decide (e2 ≤ last1))
   (
   some (.inr (.inr false))
   )
   (
   (idx x1.To v1).bind fun e3 =>
   cond (decide ((d1.length : Int) ≤ e3))
    (
    some (.inr (.inr false))
    )
    (
    cond (decide (e3 < (-101)))
     (
     some (.inr (.inr false))
     )
     (
     cond (decide (0 ≤ e3))
      (
      (idx d1 e3).bind fun e4 =>
      cond (decide (e4.Mark ≤ x1.Mark))
       (
       some (.inr (.inr false))
       )
       (
       some (.inl (e2, (IntKind.i64.wrap (v1 + 1))))
       )
      )
      (
      some (.inl (e2, (IntKind.i64.wrap (v1 + 1))))
      )
     )
    )
   )
  )
  (
  some (.inr (.inl ()))
  )
noncomputable def wfj (k1 : Int) (d1 : (List Node)) (x1 : Node) : Option Bool :=
 ((cond ((((decide (x1.Mark < 0)) || (decide (k1 ≤ x1.Mark))) || (decide ((x1.Cuts.length : Int) = 0))) || (decide (¬(x1.To.length : Int) = (x1.Cuts.length : Int))))
  (some true)
  (
   (idx x1.Cuts (IntKind.i64.wrap ((x1.Cuts.length : Int) - 1))).bind fun e1 =>
   some (decide (¬e1 = 1000))
  )
 ) : Option Bool).bind fun b1 =>
 cond b1
  (
  some false
  )
  (
  (
  (
   (
   (iter (wds d1 x1) (0, 0)).bind fun x_21 => match x_21 with
     | (.inl y1) => some (.inl y1)
     | (.inr y2) => some (.inr y2)
   )
   : Option (Unit ⊕ Bool)).bind fun o_15 => match o_15 with
    | (.inl _) =>
      some true
    | (.inr y3) => some y3
  )
  )
noncomputable def wcE (x1 : Node) (k1 : Int) (k2 : (List Node)) : Option Bool :=
 (wfj k1 k2 x1).bind fun r1 =>
 some (!r1)
noncomputable def wdh (s1 : (List Node)) (f1 : Int) (f2 : (List Node)) : Int → Option (Int ⊕ (Unit ⊕ Int)) := fun v1 =>
 cond (decide (v1 < (s1.length : Int)))
  (
  (idx s1 v1).bind fun e1 =>
  (wcE e1 f1 f2).bind fun r1 =>
  cond r1
   (
   some (.inr (.inr v1))
   )
   (
   some (.inl (IntKind.i64.wrap (v1 + 1)))
   )
  )
  (
  some (.inr (.inl ()))
  )
noncomputable def wb2 (s1 : (List Node)) (f1 : Int) (f2 : (List Node)) : Option Int :=
 (
 (
  (
  (iter (wdh s1 f1 f2) 0).bind fun x_7 => match x_7 with
    | (.inl y1) => some (.inl y1)
    | (.inr y2) => some (.inr y2)
  )
  : Option (Unit ⊕ Int)).bind fun o_1 => match o_1 with
   | (.inl _) =>
     some (-1)
   | (.inr y3) => some y3
 )
noncomputable def wbQ (s1 : (List Node)) (f1 : Int) (f2 : (List Node)) : Option Bool :=
 (wb2 s1 f1 f2).bind fun r1 =>
 some (decide (0 ≤ r1))
noncomputable def wcF (c1 : Int) (k1 : (List Int)) (k2 : Int) (k3 : (List Int)) (k4 : (List Int)) : Option Bool :=
 (idx k1 k2).bind fun e1 =>
 some (decide (e1 < c1))
noncomputable def wdt (s1 : (List Int)) (f1 : (List Int)) (f2 : Int) (f3 : (List Int)) (f4 : (List Int)) : Int → Option (Int ⊕ (Unit ⊕ Int)) := fun v1 =>
 cond (decide (v1 < (s1.length : Int)))
  (
  (idx s1 v1).bind fun e1 =>
  (wcF e1 f1 f2 f3 f4).bind fun r1 =>
  cond r1
   (
   some (.inr (.inr v1))
   )
   (
   some (.inl (IntKind.i64.wrap (v1 + 1)))
   )
  )
  (
  some (.inr (.inl ()))
  )
noncomputable def wcc (s1 : (List Int)) (f1 : (List Int)) (f2 : Int) (f3 : (List Int)) (f4 : (List Int)) : Option Int :=
 (
 (
  (
  (iter (wdt s1 f1 f2 f3 f4) 0).bind fun x_7 => match x_7 with
    | (.inl y1) => some (.inl y1)
    | (.inr y2) => some (.inr y2)
  )
  : Option (Unit ⊕ Int)).bind fun o_1 => match o_1 with
   | (.inl _) =>
     some (-1)
   | (.inr y3) => some y3
 )
noncomputable def wcp (d1 : (List Node)) (l1 : (List Int)) : Int → Option (Int ⊕ Int) := fun at2 =>
 cond (decide (0 ≤ at2))
  (
  (idx d1 at2).bind fun e1 =>
  (wcc e1.Cuts l1 e1.Mark e1.Cuts e1.To).bind fun r4 =>
  (idx e1.To r4).bind fun e2 =>
  some (.inl e2)
  )
  (
  some (.inr at2)
  )
noncomputable def wdQ (k1 : Int) (d1 : (List Node)) (l1 : (List Int)) : Option (Int × Int) :=
 (wcS k1).bind fun r1 =>
 ((cond (!r1)
  (some true)
  (
   (wd9 k1 l1).bind fun r2 =>
   some (!r2)
  )
 ) : Option Bool).bind fun b1 =>
 ((cond ((b1 || (decide ((d1.length : Int) = 0))) || (decide (200000 < (d1.length : Int))))
  (some true)
  (
   (wbQ d1 k1 d1).bind fun r3 =>
   some r3
  )
 ) : Option Bool).bind fun b2 =>
 cond b2
  (
  some (0, 2)
  )
  (
  (
   (iter (wcp d1 l1) 0).bind fun x_20 =>
   some x_20
   : Option Int).bind fun at1 =>
  cond (decide (at1 = (-1)))
   (
   some (0, 6)
   )
   (
   some ((IntKind.i64.wrap ((-2) - at1)), 0)
   )
  )
noncomputable def waQ (a1 : (List Node)) (b1 : (List Node)) : Int → Option (Int ⊕ (Unit ⊕ Bool)) := fun i1 =>
 cond (decide (i1 < (a1.length : Int)))
  (
  (idx a1 i1).bind fun e1 =>
  (idx b1 i1).bind fun e2 =>
  cond (decide (¬e1.Mark = e2.Mark))
   (
   some (.inr (.inr false))
   )
   (
   (wbb e1.Cuts e2.Cuts).bind fun r1 =>
   cond (!r1)
    (
    some (.inr (.inr false))
    )
    (
    (wbb e1.To e2.To).bind fun r2 =>
    cond (!r2)
     (
     some (.inr (.inr false))
     )
     (
     some (.inl (IntKind.i64.wrap (i1 + 1)))
     )
    )
   )
  )
  (
  some (.inr (.inl ()))
  )
noncomputable def wdl (a1 : (List Node)) (b1 : (List Node)) : Option Bool :=
 cond (decide (¬(a1.length : Int) = (b1.length : Int)))
  (
  some false
  )
  (
  (
  (
   (
   (iter (waQ a1 b1) 0).bind fun x_9 => match x_9 with
     | (.inl y1) => some (.inl y1)
     | (.inr y2) => some (.inr y2)
   )
   : Option (Unit ⊕ Bool)).bind fun o_3 => match o_3 with
    | (.inl _) =>
      some true
    | (.inr y3) => some y3
  )
  )
noncomputable def wci (k1 : Int) (s1 : (List Rule)) (t1 : (List Rule)) (thing1 : (List Int)) : Option Bool :=
 (wb5 k1 s1).bind fun r1 =>
 ((cond (!r1)
  (some true)
  (
   (wb5 k1 t1).bind fun r2 =>
   some (!r2)
  )
 ) : Option Bool).bind fun b1 =>
 cond (b1 || (decide (20 < (thing1.length : Int))))
  (
  (wbL).bind fun r3 =>
  some r3
  )
  (
  (wbj k1 s1).bind fun r4 =>
  (wbj k1 t1).bind fun r5 =>
  (wbT k1 s1 t1).bind fun r6 =>
  cond ((decide (¬r4.2 = 0)) || (decide (¬r5.2 = 0)))
   (
   ((cond (((decide (¬r6.2 = 0)) && (decide (¬r6.2 = 10))) && (decide ((r6.1.length : Int) = 0)))
    (
     (wbL).bind fun r7 =>
     some r7
    )
    (some false)
   ) : Option Bool).bind fun b2 =>
   some b2
   )
   (
   (wdl r4.1 r5.1).bind fun r8 =>
   cond ((!(r8 == (decide (r6.2 = 10)))) || ((decide (¬r6.2 = 0)) && (decide (¬r6.2 = 10))))
    (
    some false
    )
    (
    (weq k1 s1 thing1).bind fun r9 =>
    (wdQ k1 r4.1 thing1).bind fun r10 =>
    ((cond ((decide (r9.1 = r10.1)) && (decide (r9.2.2 = r10.2)))
     (
      (wbL).bind fun r11 =>
      some r11
     )
     (some false)
    ) : Option Bool).bind fun b3 =>
    some b3
    )
   )
  )
end Go.Pv

namespace Go.Pv.Tryd
open Go.Proofs
noncomputable def T1 : Ty := (wad Tryd.prog 1).getD ⟨.invalid, 0, 0, none⟩
@[go_sem] theorem ty1 : wad Tryd.prog 1 = some T1 := by kernel_rfl
@[go_sem] theorem T1_desc : T1.desc = .func #[] #[] false := by kernel_rfl
@[go_sem] theorem T1_size : T1.size = 1 := by kernel_rfl
@[go_sem] theorem T1_bytes : T1.bytes = 8 := by kernel_rfl
@[go_sem] theorem T1_zero : waf T1 = some (.d .nilfunc) := by kernel_rfl
@[go_sem] theorem T1_ok : wae T1 = true := by kernel_rfl
noncomputable def T2 : Ty := (wad Tryd.prog 2).getD ⟨.invalid, 0, 0, none⟩
@[go_sem] theorem ty2 : wad Tryd.prog 2 = some T2 := by kernel_rfl
@[go_sem] theorem T2_desc : T2.desc = .int .i64 := by kernel_rfl
@[go_sem] theorem T2_size : T2.size = 1 := by kernel_rfl
@[go_sem] theorem T2_bytes : T2.bytes = 8 := by kernel_rfl
@[go_sem] theorem T2_zero : waf T2 = some (.d (.int .i64 0)) := by kernel_rfl
@[go_sem] theorem T2_ok : wae T2 = true := by kernel_rfl
noncomputable def T3 : Ty := (wad Tryd.prog 3).getD ⟨.invalid, 0, 0, none⟩
@[go_sem] theorem ty3 : wad Tryd.prog 3 = some T3 := by kernel_rfl
@[go_sem] theorem T3_desc : T3.desc = .int .i64 := by kernel_rfl
@[go_sem] theorem T3_size : T3.size = 1 := by kernel_rfl
@[go_sem] theorem T3_bytes : T3.bytes = 8 := by kernel_rfl
@[go_sem] theorem T3_zero : waf T3 = some (.d (.int .i64 0)) := by kernel_rfl
@[go_sem] theorem T3_ok : wae T3 = true := by kernel_rfl
noncomputable def T4 : Ty := (wad Tryd.prog 4).getD ⟨.invalid, 0, 0, none⟩
@[go_sem] theorem ty4 : wad Tryd.prog 4 = some T4 := by kernel_rfl
@[go_sem] theorem T4_desc : T4.desc = .bool := by kernel_rfl
@[go_sem] theorem T4_size : T4.size = 1 := by kernel_rfl
@[go_sem] theorem T4_bytes : T4.bytes = 1 := by kernel_rfl
@[go_sem] theorem T4_zero : waf T4 = some (.d (.bool false)) := by kernel_rfl
@[go_sem] theorem T4_ok : wae T4 = true := by kernel_rfl
noncomputable def T5 : Ty := (wad Tryd.prog 5).getD ⟨.invalid, 0, 0, none⟩
@[go_sem] theorem ty5 : wad Tryd.prog 5 = some T5 := by kernel_rfl
@[go_sem] theorem T5_desc : T5.desc = .int .u8 := by kernel_rfl
@[go_sem] theorem T5_size : T5.size = 1 := by kernel_rfl
@[go_sem] theorem T5_bytes : T5.bytes = 1 := by kernel_rfl
@[go_sem] theorem T5_zero : waf T5 = some (.d (.int .u8 0)) := by kernel_rfl
@[go_sem] theorem T5_ok : wae T5 = true := by kernel_rfl
noncomputable def T9 : Ty := (wad Tryd.prog 9).getD ⟨.invalid, 0, 0, none⟩
@[go_sem] theorem ty9 : wad Tryd.prog 9 = some T9 := by kernel_rfl
@[go_sem] theorem T9_desc : T9.desc = .string := by kernel_rfl
@[go_sem] theorem T9_size : T9.size = 1 := by kernel_rfl
@[go_sem] theorem T9_bytes : T9.bytes = 16 := by kernel_rfl
@[go_sem] theorem T9_zero : waf T9 = some (.d (.str ⟨#[]⟩)) := by kernel_rfl
@[go_sem] theorem T9_ok : wae T9 = true := by kernel_rfl
noncomputable def T12 : Ty := (wad Tryd.prog 12).getD ⟨.invalid, 0, 0, none⟩
@[go_sem] theorem ty12 : wad Tryd.prog 12 = some T12 := by kernel_rfl
@[go_sem] theorem T12_desc : T12.desc = .int .u64 := by kernel_rfl
@[go_sem] theorem T12_size : T12.size = 1 := by kernel_rfl
@[go_sem] theorem T12_bytes : T12.bytes = 8 := by kernel_rfl
@[go_sem] theorem T12_zero : waf T12 = some (.d (.int .u64 0)) := by kernel_rfl
@[go_sem] theorem T12_ok : wae T12 = true := by kernel_rfl
noncomputable def T13 : Ty := (wad Tryd.prog 13).getD ⟨.invalid, 0, 0, none⟩
@[go_sem] theorem ty13 : wad Tryd.prog 13 = some T13 := by kernel_rfl
noncomputable def fs13 : Array Field := match T13.desc with | .struct fs => fs | _ => #[]
@[go_sem] theorem T13_desc : T13.desc = .struct fs13 := by kernel_rfl
noncomputable def fs13_0 : Field := fs13.getD 0 default
@[go_sem] theorem fs13_at0 : fs13[0]? = some fs13_0 := by kernel_rfl
@[go_sem] theorem fs13_0_type : fs13_0.type = 9 := by kernel_rfl
@[go_sem] theorem fs13_0_off : fs13_0.offset = 0 := by kernel_rfl
@[go_sem] theorem fo13_0 : wat Tryd.prog 13 0 = some (0, 1) := by kernel_rfl
noncomputable def fs13_1 : Field := fs13.getD 1 default
@[go_sem] theorem fs13_at1 : fs13[1]? = some fs13_1 := by kernel_rfl
@[go_sem] theorem fs13_1_type : fs13_1.type = 12 := by kernel_rfl
@[go_sem] theorem fs13_1_off : fs13_1.offset = 1 := by kernel_rfl
@[go_sem] theorem fo13_1 : wat Tryd.prog 13 1 = some (1, 1) := by kernel_rfl
@[go_sem] theorem pl13 : wbD Tryd.prog fs13.toList = some [(0, 1), (1, 1)] := by kernel_rfl
@[go_sem] theorem T13_size : T13.size = 2 := by kernel_rfl
@[go_sem] theorem T13_bytes : T13.bytes = 24 := by kernel_rfl
-- zero of 13: strings or floats
@[go_sem] theorem T13_ok : wae T13 = true := by kernel_rfl
noncomputable def T21 : Ty := (wad Tryd.prog 21).getD ⟨.invalid, 0, 0, none⟩
@[go_sem] theorem ty21 : wad Tryd.prog 21 = some T21 := by kernel_rfl
@[go_sem] theorem T21_desc : T21.desc = .int .i32 := by kernel_rfl
@[go_sem] theorem T21_size : T21.size = 1 := by kernel_rfl
@[go_sem] theorem T21_bytes : T21.bytes = 4 := by kernel_rfl
@[go_sem] theorem T21_zero : waf T21 = some (.d (.int .i32 0)) := by kernel_rfl
@[go_sem] theorem T21_ok : wae T21 = true := by kernel_rfl
noncomputable def T22 : Ty := (wad Tryd.prog 22).getD ⟨.invalid, 0, 0, none⟩
@[go_sem] theorem ty22 : wad Tryd.prog 22 = some T22 := by kernel_rfl
@[go_sem] theorem T22_desc : T22.desc = .slice 56 := by kernel_rfl
@[go_sem] theorem es22 : wbE Tryd.prog 22 = some 2 := by kernel_rfl
@[go_sem] theorem T22_size : T22.size = 1 := by kernel_rfl
@[go_sem] theorem T22_bytes : T22.bytes = 24 := by kernel_rfl
@[go_sem] theorem T22_zero : waf T22 = some (.d .nilslice) := by kernel_rfl
@[go_sem] theorem T22_ok : wae T22 = true := by kernel_rfl
noncomputable def T23 : Ty := (wad Tryd.prog 23).getD ⟨.invalid, 0, 0, none⟩
@[go_sem] theorem ty23 : wad Tryd.prog 23 = some T23 := by kernel_rfl
@[go_sem] theorem T23_desc : T23.desc = .func #[3, 22] #[4] false := by kernel_rfl
@[go_sem] theorem T23_size : T23.size = 1 := by kernel_rfl
@[go_sem] theorem T23_bytes : T23.bytes = 8 := by kernel_rfl
@[go_sem] theorem T23_zero : waf T23 = some (.d .nilfunc) := by kernel_rfl
@[go_sem] theorem T23_ok : wae T23 = true := by kernel_rfl
noncomputable def T24 : Ty := (wad Tryd.prog 24).getD ⟨.invalid, 0, 0, none⟩
@[go_sem] theorem ty24 : wad Tryd.prog 24 = some T24 := by kernel_rfl
@[go_sem] theorem T24_desc : T24.desc = .func #[] #[4] false := by kernel_rfl
@[go_sem] theorem T24_size : T24.size = 1 := by kernel_rfl
@[go_sem] theorem T24_bytes : T24.bytes = 8 := by kernel_rfl
@[go_sem] theorem T24_zero : waf T24 = some (.d .nilfunc) := by kernel_rfl
@[go_sem] theorem T24_ok : wae T24 = true := by kernel_rfl
noncomputable def T25 : Ty := (wad Tryd.prog 25).getD ⟨.invalid, 0, 0, none⟩
@[go_sem] theorem ty25 : wad Tryd.prog 25 = some T25 := by kernel_rfl
@[go_sem] theorem T25_desc : T25.desc = .func #[22] #[22] false := by kernel_rfl
@[go_sem] theorem T25_size : T25.size = 1 := by kernel_rfl
@[go_sem] theorem T25_bytes : T25.bytes = 8 := by kernel_rfl
@[go_sem] theorem T25_zero : waf T25 = some (.d .nilfunc) := by kernel_rfl
@[go_sem] theorem T25_ok : wae T25 = true := by kernel_rfl
noncomputable def T26 : Ty := (wad Tryd.prog 26).getD ⟨.invalid, 0, 0, none⟩
@[go_sem] theorem ty26 : wad Tryd.prog 26 = some T26 := by kernel_rfl
@[go_sem] theorem T26_desc : T26.desc = .slice 3 := by kernel_rfl
@[go_sem] theorem es26 : wbE Tryd.prog 26 = some 1 := by kernel_rfl
@[go_sem] theorem T26_size : T26.size = 1 := by kernel_rfl
@[go_sem] theorem T26_bytes : T26.bytes = 24 := by kernel_rfl
@[go_sem] theorem T26_zero : waf T26 = some (.d .nilslice) := by kernel_rfl
@[go_sem] theorem T26_ok : wae T26 = true := by kernel_rfl
noncomputable def T27 : Ty := (wad Tryd.prog 27).getD ⟨.invalid, 0, 0, none⟩
@[go_sem] theorem ty27 : wad Tryd.prog 27 = some T27 := by kernel_rfl
@[go_sem] theorem T27_desc : T27.desc = .int .i64 := by kernel_rfl
@[go_sem] theorem T27_size : T27.size = 1 := by kernel_rfl
@[go_sem] theorem T27_bytes : T27.bytes = 8 := by kernel_rfl
@[go_sem] theorem T27_zero : waf T27 = some (.d (.int .i64 0)) := by kernel_rfl
@[go_sem] theorem T27_ok : wae T27 = true := by kernel_rfl
noncomputable def T29 : Ty := (wad Tryd.prog 29).getD ⟨.invalid, 0, 0, none⟩
@[go_sem] theorem ty29 : wad Tryd.prog 29 = some T29 := by kernel_rfl
@[go_sem] theorem T29_desc : T29.desc = .func #[3, 22] #[26, 27] false := by kernel_rfl
@[go_sem] theorem T29_size : T29.size = 1 := by kernel_rfl
@[go_sem] theorem T29_bytes : T29.bytes = 8 := by kernel_rfl
@[go_sem] theorem T29_zero : waf T29 = some (.d .nilfunc) := by kernel_rfl
@[go_sem] theorem T29_ok : wae T29 = true := by kernel_rfl
noncomputable def T30 : Ty := (wad Tryd.prog 30).getD ⟨.invalid, 0, 0, none⟩
@[go_sem] theorem ty30 : wad Tryd.prog 30 = some T30 := by kernel_rfl
@[go_sem] theorem T30_desc : T30.desc = .func #[26, 26] #[4] false := by kernel_rfl
@[go_sem] theorem T30_size : T30.size = 1 := by kernel_rfl
@[go_sem] theorem T30_bytes : T30.bytes = 8 := by kernel_rfl
@[go_sem] theorem T30_zero : waf T30 = some (.d .nilfunc) := by kernel_rfl
@[go_sem] theorem T30_ok : wae T30 = true := by kernel_rfl
noncomputable def T31 : Ty := (wad Tryd.prog 31).getD ⟨.invalid, 0, 0, none⟩
@[go_sem] theorem ty31 : wad Tryd.prog 31 = some T31 := by kernel_rfl
@[go_sem] theorem T31_desc : T31.desc = .func #[22, 22] #[4] false := by kernel_rfl
@[go_sem] theorem T31_size : T31.size = 1 := by kernel_rfl
@[go_sem] theorem T31_bytes : T31.bytes = 8 := by kernel_rfl
@[go_sem] theorem T31_zero : waf T31 = some (.d .nilfunc) := by kernel_rfl
@[go_sem] theorem T31_ok : wae T31 = true := by kernel_rfl
noncomputable def T32 : Ty := (wad Tryd.prog 32).getD ⟨.invalid, 0, 0, none⟩
@[go_sem] theorem ty32 : wad Tryd.prog 32 = some T32 := by kernel_rfl
@[go_sem] theorem T32_desc : T32.desc = .slice 37 := by kernel_rfl
@[go_sem] theorem es32 : wbE Tryd.prog 32 = some 3 := by kernel_rfl
@[go_sem] theorem T32_size : T32.size = 1 := by kernel_rfl
@[go_sem] theorem T32_bytes : T32.bytes = 24 := by kernel_rfl
@[go_sem] theorem T32_zero : waf T32 = some (.d .nilslice) := by kernel_rfl
@[go_sem] theorem T32_ok : wae T32 = true := by kernel_rfl
noncomputable def T34 : Ty := (wad Tryd.prog 34).getD ⟨.invalid, 0, 0, none⟩
@[go_sem] theorem ty34 : wad Tryd.prog 34 = some T34 := by kernel_rfl
@[go_sem] theorem T34_desc : T34.desc = .func #[3, 22] #[32, 27] false := by kernel_rfl
@[go_sem] theorem T34_size : T34.size = 1 := by kernel_rfl
@[go_sem] theorem T34_bytes : T34.bytes = 8 := by kernel_rfl
@[go_sem] theorem T34_zero : waf T34 = some (.d .nilfunc) := by kernel_rfl
@[go_sem] theorem T34_ok : wae T34 = true := by kernel_rfl
noncomputable def T35 : Ty := (wad Tryd.prog 35).getD ⟨.invalid, 0, 0, none⟩
@[go_sem] theorem ty35 : wad Tryd.prog 35 = some T35 := by kernel_rfl
@[go_sem] theorem T35_desc : T35.desc = .func #[32, 32] #[4] false := by kernel_rfl
@[go_sem] theorem T35_size : T35.size = 1 := by kernel_rfl
@[go_sem] theorem T35_bytes : T35.bytes = 8 := by kernel_rfl
@[go_sem] theorem T35_zero : waf T35 = some (.d .nilfunc) := by kernel_rfl
@[go_sem] theorem T35_ok : wae T35 = true := by kernel_rfl
noncomputable def T36 : Ty := (wad Tryd.prog 36).getD ⟨.invalid, 0, 0, none⟩
@[go_sem] theorem ty36 : wad Tryd.prog 36 = some T36 := by kernel_rfl
noncomputable def fs36 : Array Field := match T36.desc with | .struct fs => fs | _ => #[]
@[go_sem] theorem T36_desc : T36.desc = .struct fs36 := by kernel_rfl
noncomputable def fs36_0 : Field := fs36.getD 0 default
@[go_sem] theorem fs36_at0 : fs36[0]? = some fs36_0 := by kernel_rfl
@[go_sem] theorem fs36_0_type : fs36_0.type = 3 := by kernel_rfl
@[go_sem] theorem fs36_0_off : fs36_0.offset = 0 := by kernel_rfl
@[go_sem] theorem fo36_0 : wat Tryd.prog 36 0 = some (0, 1) := by kernel_rfl
noncomputable def fs36_1 : Field := fs36.getD 1 default
@[go_sem] theorem fs36_at1 : fs36[1]? = some fs36_1 := by kernel_rfl
@[go_sem] theorem fs36_1_type : fs36_1.type = 26 := by kernel_rfl
@[go_sem] theorem fs36_1_off : fs36_1.offset = 1 := by kernel_rfl
@[go_sem] theorem fo36_1 : wat Tryd.prog 36 1 = some (1, 1) := by kernel_rfl
noncomputable def fs36_2 : Field := fs36.getD 2 default
@[go_sem] theorem fs36_at2 : fs36[2]? = some fs36_2 := by kernel_rfl
@[go_sem] theorem fs36_2_type : fs36_2.type = 26 := by kernel_rfl
@[go_sem] theorem fs36_2_off : fs36_2.offset = 2 := by kernel_rfl
@[go_sem] theorem fo36_2 : wat Tryd.prog 36 2 = some (2, 1) := by kernel_rfl
@[go_sem] theorem pl36 : wbD Tryd.prog fs36.toList = some [(0, 1), (1, 1), (2, 1)] := by kernel_rfl
@[go_sem] theorem T36_size : T36.size = 3 := by kernel_rfl
@[go_sem] theorem T36_bytes : T36.bytes = 56 := by kernel_rfl
@[go_sem] theorem T36_cells : zeroCells T36.zero = some [.d (.int .i64 0), .d .nilslice, .d .nilslice] := by kernel_rfl
@[go_sem] theorem T36_zero : waf T36 = some (.d (.agg [(.int .i64 0), .nilslice, .nilslice])) := by kernel_rfl
@[go_sem] theorem T36_ok : wae T36 = true := by kernel_rfl
noncomputable def T37 : Ty := (wad Tryd.prog 37).getD ⟨.invalid, 0, 0, none⟩
@[go_sem] theorem ty37 : wad Tryd.prog 37 = some T37 := by kernel_rfl
noncomputable def fs37 : Array Field := match T37.desc with | .struct fs => fs | _ => #[]
@[go_sem] theorem T37_desc : T37.desc = .struct fs37 := by kernel_rfl
noncomputable def fs37_0 : Field := fs37.getD 0 default
@[go_sem] theorem fs37_at0 : fs37[0]? = some fs37_0 := by kernel_rfl
@[go_sem] theorem fs37_0_type : fs37_0.type = 3 := by kernel_rfl
@[go_sem] theorem fs37_0_off : fs37_0.offset = 0 := by kernel_rfl
@[go_sem] theorem fo37_0 : wat Tryd.prog 37 0 = some (0, 1) := by kernel_rfl
noncomputable def fs37_1 : Field := fs37.getD 1 default
@[go_sem] theorem fs37_at1 : fs37[1]? = some fs37_1 := by kernel_rfl
@[go_sem] theorem fs37_1_type : fs37_1.type = 26 := by kernel_rfl
@[go_sem] theorem fs37_1_off : fs37_1.offset = 1 := by kernel_rfl
@[go_sem] theorem fo37_1 : wat Tryd.prog 37 1 = some (1, 1) := by kernel_rfl
noncomputable def fs37_2 : Field := fs37.getD 2 default
@[go_sem] theorem fs37_at2 : fs37[2]? = some fs37_2 := by kernel_rfl
@[go_sem] theorem fs37_2_type : fs37_2.type = 26 := by kernel_rfl
@[go_sem] theorem fs37_2_off : fs37_2.offset = 2 := by kernel_rfl
@[go_sem] theorem fo37_2 : wat Tryd.prog 37 2 = some (2, 1) := by kernel_rfl
@[go_sem] theorem pl37 : wbD Tryd.prog fs37.toList = some [(0, 1), (1, 1), (2, 1)] := by kernel_rfl
@[go_sem] theorem T37_size : T37.size = 3 := by kernel_rfl
@[go_sem] theorem T37_bytes : T37.bytes = 56 := by kernel_rfl
@[go_sem] theorem T37_cells : zeroCells T37.zero = some [.d (.int .i64 0), .d .nilslice, .d .nilslice] := by kernel_rfl
@[go_sem] theorem T37_zero : waf T37 = some (.d (.agg [(.int .i64 0), .nilslice, .nilslice])) := by kernel_rfl
@[go_sem] theorem T37_ok : wae T37 = true := by kernel_rfl
noncomputable def T39 : Ty := (wad Tryd.prog 39).getD ⟨.invalid, 0, 0, none⟩
@[go_sem] theorem ty39 : wad Tryd.prog 39 = some T39 := by kernel_rfl
@[go_sem] theorem T39_desc : T39.desc = .func #[3, 22] #[26, 3, 27] false := by kernel_rfl
@[go_sem] theorem T39_size : T39.size = 1 := by kernel_rfl
@[go_sem] theorem T39_bytes : T39.bytes = 8 := by kernel_rfl
@[go_sem] theorem T39_zero : waf T39 = some (.d .nilfunc) := by kernel_rfl
@[go_sem] theorem T39_ok : wae T39 = true := by kernel_rfl
noncomputable def T40 : Ty := (wad Tryd.prog 40).getD ⟨.invalid, 0, 0, none⟩
@[go_sem] theorem ty40 : wad Tryd.prog 40 = some T40 := by kernel_rfl
@[go_sem] theorem T40_desc : T40.desc = .func #[3, 22, 22] #[26, 27] false := by kernel_rfl
@[go_sem] theorem T40_size : T40.size = 1 := by kernel_rfl
@[go_sem] theorem T40_bytes : T40.bytes = 8 := by kernel_rfl
@[go_sem] theorem T40_zero : waf T40 = some (.d .nilfunc) := by kernel_rfl
@[go_sem] theorem T40_ok : wae T40 = true := by kernel_rfl
noncomputable def T41 : Ty := (wad Tryd.prog 41).getD ⟨.invalid, 0, 0, none⟩
@[go_sem] theorem ty41 : wad Tryd.prog 41 = some T41 := by kernel_rfl
@[go_sem] theorem T41_desc : T41.desc = .func #[3, 22, 22] #[4] false := by kernel_rfl
@[go_sem] theorem T41_size : T41.size = 1 := by kernel_rfl
@[go_sem] theorem T41_bytes : T41.bytes = 8 := by kernel_rfl
@[go_sem] theorem T41_zero : waf T41 = some (.d .nilfunc) := by kernel_rfl
@[go_sem] theorem T41_ok : wae T41 = true := by kernel_rfl
noncomputable def T45 : Ty := (wad Tryd.prog 45).getD ⟨.invalid, 0, 0, none⟩
@[go_sem] theorem ty45 : wad Tryd.prog 45 = some T45 := by kernel_rfl
@[go_sem] theorem T45_desc : T45.desc = .func #[3, 22, 26] #[3, 3, 27] false := by kernel_rfl
@[go_sem] theorem T45_size : T45.size = 1 := by kernel_rfl
@[go_sem] theorem T45_bytes : T45.bytes = 8 := by kernel_rfl
@[go_sem] theorem T45_zero : waf T45 = some (.d .nilfunc) := by kernel_rfl
@[go_sem] theorem T45_ok : wae T45 = true := by kernel_rfl
noncomputable def T48 : Ty := (wad Tryd.prog 48).getD ⟨.invalid, 0, 0, none⟩
@[go_sem] theorem ty48 : wad Tryd.prog 48 = some T48 := by kernel_rfl
@[go_sem] theorem T48_desc : T48.desc = .func #[3, 32, 26] #[3, 27] false := by kernel_rfl
@[go_sem] theorem T48_size : T48.size = 1 := by kernel_rfl
@[go_sem] theorem T48_bytes : T48.bytes = 8 := by kernel_rfl
@[go_sem] theorem T48_zero : waf T48 = some (.d .nilfunc) := by kernel_rfl
@[go_sem] theorem T48_ok : wae T48 = true := by kernel_rfl
noncomputable def T49 : Ty := (wad Tryd.prog 49).getD ⟨.invalid, 0, 0, none⟩
@[go_sem] theorem ty49 : wad Tryd.prog 49 = some T49 := by kernel_rfl
@[go_sem] theorem T49_desc : T49.desc = .func #[3, 32, 26] #[4] false := by kernel_rfl
@[go_sem] theorem T49_size : T49.size = 1 := by kernel_rfl
@[go_sem] theorem T49_bytes : T49.bytes = 8 := by kernel_rfl
@[go_sem] theorem T49_zero : waf T49 = some (.d .nilfunc) := by kernel_rfl
@[go_sem] theorem T49_ok : wae T49 = true := by kernel_rfl
noncomputable def T50 : Ty := (wad Tryd.prog 50).getD ⟨.invalid, 0, 0, none⟩
@[go_sem] theorem ty50 : wad Tryd.prog 50 = some T50 := by kernel_rfl
@[go_sem] theorem T50_desc : T50.desc = .int .u16 := by kernel_rfl
@[go_sem] theorem T50_size : T50.size = 1 := by kernel_rfl
@[go_sem] theorem T50_bytes : T50.bytes = 2 := by kernel_rfl
@[go_sem] theorem T50_zero : waf T50 = some (.d (.int .u16 0)) := by kernel_rfl
@[go_sem] theorem T50_ok : wae T50 = true := by kernel_rfl
noncomputable def T51 : Ty := (wad Tryd.prog 51).getD ⟨.invalid, 0, 0, none⟩
@[go_sem] theorem ty51 : wad Tryd.prog 51 = some T51 := by kernel_rfl
@[go_sem] theorem T51_desc : T51.desc = .func #[4, 50] #[4] false := by kernel_rfl
@[go_sem] theorem T51_size : T51.size = 1 := by kernel_rfl
@[go_sem] theorem T51_bytes : T51.bytes = 8 := by kernel_rfl
@[go_sem] theorem T51_zero : waf T51 = some (.d .nilfunc) := by kernel_rfl
@[go_sem] theorem T51_ok : wae T51 = true := by kernel_rfl
noncomputable def T52 : Ty := (wad Tryd.prog 52).getD ⟨.invalid, 0, 0, none⟩
@[go_sem] theorem ty52 : wad Tryd.prog 52 = some T52 := by kernel_rfl
@[go_sem] theorem T52_desc : T52.desc = .slice 5 := by kernel_rfl
@[go_sem] theorem es52 : wbE Tryd.prog 52 = some 1 := by kernel_rfl
@[go_sem] theorem T52_size : T52.size = 1 := by kernel_rfl
@[go_sem] theorem T52_bytes : T52.bytes = 24 := by kernel_rfl
@[go_sem] theorem T52_zero : waf T52 = some (.d .nilslice) := by kernel_rfl
@[go_sem] theorem T52_ok : wae T52 = true := by kernel_rfl
noncomputable def T53 : Ty := (wad Tryd.prog 53).getD ⟨.invalid, 0, 0, none⟩
@[go_sem] theorem ty53 : wad Tryd.prog 53 = some T53 := by kernel_rfl
@[go_sem] theorem T53_desc : T53.desc = .func #[3, 22] #[27] false := by kernel_rfl
@[go_sem] theorem T53_size : T53.size = 1 := by kernel_rfl
@[go_sem] theorem T53_bytes : T53.bytes = 8 := by kernel_rfl
@[go_sem] theorem T53_zero : waf T53 = some (.d .nilfunc) := by kernel_rfl
@[go_sem] theorem T53_ok : wae T53 = true := by kernel_rfl
noncomputable def T54 : Ty := (wad Tryd.prog 54).getD ⟨.invalid, 0, 0, none⟩
@[go_sem] theorem ty54 : wad Tryd.prog 54 = some T54 := by kernel_rfl
@[go_sem] theorem T54_desc : T54.desc = .slice 61 := by kernel_rfl
@[go_sem] theorem es54 : wbE Tryd.prog 54 = some 2 := by kernel_rfl
@[go_sem] theorem T54_size : T54.size = 1 := by kernel_rfl
@[go_sem] theorem T54_bytes : T54.bytes = 24 := by kernel_rfl
@[go_sem] theorem T54_zero : waf T54 = some (.d .nilslice) := by kernel_rfl
@[go_sem] theorem T54_ok : wae T54 = true := by kernel_rfl
noncomputable def T55 : Ty := (wad Tryd.prog 55).getD ⟨.invalid, 0, 0, none⟩
@[go_sem] theorem ty55 : wad Tryd.prog 55 = some T55 := by kernel_rfl
noncomputable def fs55 : Array Field := match T55.desc with | .struct fs => fs | _ => #[]
@[go_sem] theorem T55_desc : T55.desc = .struct fs55 := by kernel_rfl
noncomputable def fs55_0 : Field := fs55.getD 0 default
@[go_sem] theorem fs55_at0 : fs55[0]? = some fs55_0 := by kernel_rfl
@[go_sem] theorem fs55_0_type : fs55_0.type = 54 := by kernel_rfl
@[go_sem] theorem fs55_0_off : fs55_0.offset = 0 := by kernel_rfl
@[go_sem] theorem fo55_0 : wat Tryd.prog 55 0 = some (0, 1) := by kernel_rfl
noncomputable def fs55_1 : Field := fs55.getD 1 default
@[go_sem] theorem fs55_at1 : fs55[1]? = some fs55_1 := by kernel_rfl
@[go_sem] theorem fs55_1_type : fs55_1.type = 3 := by kernel_rfl
@[go_sem] theorem fs55_1_off : fs55_1.offset = 1 := by kernel_rfl
@[go_sem] theorem fo55_1 : wat Tryd.prog 55 1 = some (1, 1) := by kernel_rfl
@[go_sem] theorem pl55 : wbD Tryd.prog fs55.toList = some [(0, 1), (1, 1)] := by kernel_rfl
@[go_sem] theorem T55_size : T55.size = 2 := by kernel_rfl
@[go_sem] theorem T55_bytes : T55.bytes = 32 := by kernel_rfl
@[go_sem] theorem T55_cells : zeroCells T55.zero = some [.d .nilslice, .d (.int .i64 0)] := by kernel_rfl
@[go_sem] theorem T55_zero : waf T55 = some (.d (.agg [.nilslice, (.int .i64 0)])) := by kernel_rfl
@[go_sem] theorem T55_ok : wae T55 = true := by kernel_rfl
noncomputable def T56 : Ty := (wad Tryd.prog 56).getD ⟨.invalid, 0, 0, none⟩
@[go_sem] theorem ty56 : wad Tryd.prog 56 = some T56 := by kernel_rfl
noncomputable def fs56 : Array Field := match T56.desc with | .struct fs => fs | _ => #[]
@[go_sem] theorem T56_desc : T56.desc = .struct fs56 := by kernel_rfl
noncomputable def fs56_0 : Field := fs56.getD 0 default
@[go_sem] theorem fs56_at0 : fs56[0]? = some fs56_0 := by kernel_rfl
@[go_sem] theorem fs56_0_type : fs56_0.type = 54 := by kernel_rfl
@[go_sem] theorem fs56_0_off : fs56_0.offset = 0 := by kernel_rfl
@[go_sem] theorem fo56_0 : wat Tryd.prog 56 0 = some (0, 1) := by kernel_rfl
noncomputable def fs56_1 : Field := fs56.getD 1 default
@[go_sem] theorem fs56_at1 : fs56[1]? = some fs56_1 := by kernel_rfl
@[go_sem] theorem fs56_1_type : fs56_1.type = 3 := by kernel_rfl
@[go_sem] theorem fs56_1_off : fs56_1.offset = 1 := by kernel_rfl
@[go_sem] theorem fo56_1 : wat Tryd.prog 56 1 = some (1, 1) := by kernel_rfl
@[go_sem] theorem pl56 : wbD Tryd.prog fs56.toList = some [(0, 1), (1, 1)] := by kernel_rfl
@[go_sem] theorem T56_size : T56.size = 2 := by kernel_rfl
@[go_sem] theorem T56_bytes : T56.bytes = 32 := by kernel_rfl
@[go_sem] theorem T56_cells : zeroCells T56.zero = some [.d .nilslice, .d (.int .i64 0)] := by kernel_rfl
@[go_sem] theorem T56_zero : waf T56 = some (.d (.agg [.nilslice, (.int .i64 0)])) := by kernel_rfl
@[go_sem] theorem T56_ok : wae T56 = true := by kernel_rfl
noncomputable def T57 : Ty := (wad Tryd.prog 57).getD ⟨.invalid, 0, 0, none⟩
@[go_sem] theorem ty57 : wad Tryd.prog 57 = some T57 := by kernel_rfl
@[go_sem] theorem T57_desc : T57.desc = .func #[3, 22, 52] #[4] false := by kernel_rfl
@[go_sem] theorem T57_size : T57.size = 1 := by kernel_rfl
@[go_sem] theorem T57_bytes : T57.bytes = 8 := by kernel_rfl
@[go_sem] theorem T57_zero : waf T57 = some (.d .nilfunc) := by kernel_rfl
@[go_sem] theorem T57_ok : wae T57 = true := by kernel_rfl
@[go_sem] theorem sih60 : Tryd.prog.stoodInHeld 60 = false := by kernel_rfl
@[go_sem] theorem egt60 : Tryd.prog.eqGuardType Tryd.prog.depth 60 = false := by kernel_rfl
noncomputable def T61 : Ty := (wad Tryd.prog 61).getD ⟨.invalid, 0, 0, none⟩
@[go_sem] theorem ty61 : wad Tryd.prog 61 = some T61 := by kernel_rfl
noncomputable def fs61 : Array Field := match T61.desc with | .struct fs => fs | _ => #[]
@[go_sem] theorem T61_desc : T61.desc = .struct fs61 := by kernel_rfl
noncomputable def fs61_0 : Field := fs61.getD 0 default
@[go_sem] theorem fs61_at0 : fs61[0]? = some fs61_0 := by kernel_rfl
@[go_sem] theorem fs61_0_type : fs61_0.type = 3 := by kernel_rfl
@[go_sem] theorem fs61_0_off : fs61_0.offset = 0 := by kernel_rfl
@[go_sem] theorem fo61_0 : wat Tryd.prog 61 0 = some (0, 1) := by kernel_rfl
@[go_sem] theorem fs61_0_nm : (fs61_0.name == "_") = false := by kernel_rfl
noncomputable def fs61_1 : Field := fs61.getD 1 default
@[go_sem] theorem fs61_at1 : fs61[1]? = some fs61_1 := by kernel_rfl
@[go_sem] theorem fs61_1_type : fs61_1.type = 3 := by kernel_rfl
@[go_sem] theorem fs61_1_off : fs61_1.offset = 1 := by kernel_rfl
@[go_sem] theorem fo61_1 : wat Tryd.prog 61 1 = some (1, 1) := by kernel_rfl
@[go_sem] theorem fs61_1_nm : (fs61_1.name == "_") = false := by kernel_rfl
@[go_sem] theorem sih61 : Tryd.prog.stoodInHeld 61 = false := by kernel_rfl
@[go_sem] theorem egt61 : Tryd.prog.eqGuardType Tryd.prog.depth 61 = false := by kernel_rfl
@[go_sem] theorem pl61 : wbD Tryd.prog fs61.toList = some [(0, 1), (1, 1)] := by kernel_rfl
@[go_sem] theorem T61_size : T61.size = 2 := by kernel_rfl
@[go_sem] theorem T61_bytes : T61.bytes = 16 := by kernel_rfl
@[go_sem] theorem T61_cells : zeroCells T61.zero = some [.d (.int .i64 0), .d (.int .i64 0)] := by kernel_rfl
@[go_sem] theorem T61_zero : waf T61 = some (.d (.agg [(.int .i64 0), (.int .i64 0)])) := by kernel_rfl
@[go_sem] theorem T61_ok : wae T61 = true := by kernel_rfl
noncomputable def T64 : Ty := (wad Tryd.prog 64).getD ⟨.invalid, 0, 0, none⟩
@[go_sem] theorem ty64 : wad Tryd.prog 64 = some T64 := by kernel_rfl
@[go_sem] theorem T64_desc : T64.desc = .func #[3, 22, 22, 3, 3, 26] #[4] false := by kernel_rfl
@[go_sem] theorem T64_size : T64.size = 1 := by kernel_rfl
@[go_sem] theorem T64_bytes : T64.bytes = 8 := by kernel_rfl
@[go_sem] theorem T64_zero : waf T64 = some (.d .nilfunc) := by kernel_rfl
@[go_sem] theorem T64_ok : wae T64 = true := by kernel_rfl
noncomputable def T65 : Ty := (wad Tryd.prog 65).getD ⟨.invalid, 0, 0, none⟩
@[go_sem] theorem ty65 : wad Tryd.prog 65 = some T65 := by kernel_rfl
@[go_sem] theorem T65_desc : T65.desc = .func #[3, 22, 22, 26] #[4] false := by kernel_rfl
@[go_sem] theorem T65_size : T65.size = 1 := by kernel_rfl
@[go_sem] theorem T65_bytes : T65.bytes = 8 := by kernel_rfl
@[go_sem] theorem T65_zero : waf T65 = some (.d .nilfunc) := by kernel_rfl
@[go_sem] theorem T65_ok : wae T65 = true := by kernel_rfl
noncomputable def T68 : Ty := (wad Tryd.prog 68).getD ⟨.invalid, 0, 0, none⟩
@[go_sem] theorem ty68 : wad Tryd.prog 68 = some T68 := by kernel_rfl
@[go_sem] theorem T68_desc : T68.desc = .func #[3, 113] #[27] true := by kernel_rfl
@[go_sem] theorem T68_size : T68.size = 1 := by kernel_rfl
@[go_sem] theorem T68_bytes : T68.bytes = 8 := by kernel_rfl
@[go_sem] theorem T68_zero : waf T68 = some (.d .nilfunc) := by kernel_rfl
@[go_sem] theorem T68_ok : wae T68 = true := by kernel_rfl
noncomputable def T71 : Ty := (wad Tryd.prog 71).getD ⟨.invalid, 0, 0, none⟩
@[go_sem] theorem ty71 : wad Tryd.prog 71 = some T71 := by kernel_rfl
noncomputable def fs71 : Array Field := match T71.desc with | .struct fs => fs | _ => #[]
@[go_sem] theorem T71_desc : T71.desc = .struct fs71 := by kernel_rfl
noncomputable def fs71_0 : Field := fs71.getD 0 default
@[go_sem] theorem fs71_at0 : fs71[0]? = some fs71_0 := by kernel_rfl
@[go_sem] theorem fs71_0_type : fs71_0.type = 3 := by kernel_rfl
@[go_sem] theorem fs71_0_off : fs71_0.offset = 0 := by kernel_rfl
@[go_sem] theorem fo71_0 : wat Tryd.prog 71 0 = some (0, 1) := by kernel_rfl
noncomputable def fs71_1 : Field := fs71.getD 1 default
@[go_sem] theorem fs71_at1 : fs71[1]? = some fs71_1 := by kernel_rfl
@[go_sem] theorem fs71_1_type : fs71_1.type = 22 := by kernel_rfl
@[go_sem] theorem fs71_1_off : fs71_1.offset = 1 := by kernel_rfl
@[go_sem] theorem fo71_1 : wat Tryd.prog 71 1 = some (1, 1) := by kernel_rfl
noncomputable def fs71_2 : Field := fs71.getD 2 default
@[go_sem] theorem fs71_at2 : fs71[2]? = some fs71_2 := by kernel_rfl
@[go_sem] theorem fs71_2_type : fs71_2.type = 22 := by kernel_rfl
@[go_sem] theorem fs71_2_off : fs71_2.offset = 2 := by kernel_rfl
@[go_sem] theorem fo71_2 : wat Tryd.prog 71 2 = some (2, 1) := by kernel_rfl
@[go_sem] theorem pl71 : wbD Tryd.prog fs71.toList = some [(0, 1), (1, 1), (2, 1)] := by kernel_rfl
@[go_sem] theorem T71_size : T71.size = 3 := by kernel_rfl
@[go_sem] theorem T71_bytes : T71.bytes = 56 := by kernel_rfl
@[go_sem] theorem T71_cells : zeroCells T71.zero = some [.d (.int .i64 0), .d .nilslice, .d .nilslice] := by kernel_rfl
@[go_sem] theorem T71_zero : waf T71 = some (.d (.agg [(.int .i64 0), .nilslice, .nilslice])) := by kernel_rfl
@[go_sem] theorem T71_ok : wae T71 = true := by kernel_rfl
noncomputable def T72 : Ty := (wad Tryd.prog 72).getD ⟨.invalid, 0, 0, none⟩
@[go_sem] theorem ty72 : wad Tryd.prog 72 = some T72 := by kernel_rfl
noncomputable def fs72 : Array Field := match T72.desc with | .struct fs => fs | _ => #[]
@[go_sem] theorem T72_desc : T72.desc = .struct fs72 := by kernel_rfl
noncomputable def fs72_0 : Field := fs72.getD 0 default
@[go_sem] theorem fs72_at0 : fs72[0]? = some fs72_0 := by kernel_rfl
@[go_sem] theorem fs72_0_type : fs72_0.type = 3 := by kernel_rfl
@[go_sem] theorem fs72_0_off : fs72_0.offset = 0 := by kernel_rfl
@[go_sem] theorem fo72_0 : wat Tryd.prog 72 0 = some (0, 1) := by kernel_rfl
noncomputable def fs72_1 : Field := fs72.getD 1 default
@[go_sem] theorem fs72_at1 : fs72[1]? = some fs72_1 := by kernel_rfl
@[go_sem] theorem fs72_1_type : fs72_1.type = 22 := by kernel_rfl
@[go_sem] theorem fs72_1_off : fs72_1.offset = 1 := by kernel_rfl
@[go_sem] theorem fo72_1 : wat Tryd.prog 72 1 = some (1, 1) := by kernel_rfl
noncomputable def fs72_2 : Field := fs72.getD 2 default
@[go_sem] theorem fs72_at2 : fs72[2]? = some fs72_2 := by kernel_rfl
@[go_sem] theorem fs72_2_type : fs72_2.type = 22 := by kernel_rfl
@[go_sem] theorem fs72_2_off : fs72_2.offset = 2 := by kernel_rfl
@[go_sem] theorem fo72_2 : wat Tryd.prog 72 2 = some (2, 1) := by kernel_rfl
@[go_sem] theorem pl72 : wbD Tryd.prog fs72.toList = some [(0, 1), (1, 1), (2, 1)] := by kernel_rfl
@[go_sem] theorem T72_size : T72.size = 3 := by kernel_rfl
@[go_sem] theorem T72_bytes : T72.bytes = 56 := by kernel_rfl
@[go_sem] theorem T72_cells : zeroCells T72.zero = some [.d (.int .i64 0), .d .nilslice, .d .nilslice] := by kernel_rfl
@[go_sem] theorem T72_zero : waf T72 = some (.d (.agg [(.int .i64 0), .nilslice, .nilslice])) := by kernel_rfl
@[go_sem] theorem T72_ok : wae T72 = true := by kernel_rfl
noncomputable def T73 : Ty := (wad Tryd.prog 73).getD ⟨.invalid, 0, 0, none⟩
@[go_sem] theorem ty73 : wad Tryd.prog 73 = some T73 := by kernel_rfl
@[go_sem] theorem T73_desc : T73.desc = .func #[74] #[26, 4] false := by kernel_rfl
@[go_sem] theorem T73_size : T73.size = 1 := by kernel_rfl
@[go_sem] theorem T73_bytes : T73.bytes = 8 := by kernel_rfl
@[go_sem] theorem T73_zero : waf T73 = some (.d .nilfunc) := by kernel_rfl
@[go_sem] theorem T73_ok : wae T73 = true := by kernel_rfl
noncomputable def T74 : Ty := (wad Tryd.prog 74).getD ⟨.invalid, 0, 0, none⟩
@[go_sem] theorem ty74 : wad Tryd.prog 74 = some T74 := by kernel_rfl
@[go_sem] theorem T74_desc : T74.desc = .func #[3, 3] #[4] false := by kernel_rfl
@[go_sem] theorem T74_size : T74.size = 1 := by kernel_rfl
@[go_sem] theorem T74_bytes : T74.bytes = 8 := by kernel_rfl
@[go_sem] theorem T74_zero : waf T74 = some (.d .nilfunc) := by kernel_rfl
@[go_sem] theorem T74_ok : wae T74 = true := by kernel_rfl
noncomputable def T76 : Ty := (wad Tryd.prog 76).getD ⟨.invalid, 0, 0, none⟩
@[go_sem] theorem ty76 : wad Tryd.prog 76 = some T76 := by kernel_rfl
@[go_sem] theorem T76_desc : T76.desc = .slice 120 := by kernel_rfl
@[go_sem] theorem es76 : wbE Tryd.prog 76 = some 3 := by kernel_rfl
@[go_sem] theorem T76_size : T76.size = 1 := by kernel_rfl
@[go_sem] theorem T76_bytes : T76.bytes = 24 := by kernel_rfl
@[go_sem] theorem T76_zero : waf T76 = some (.d .nilslice) := by kernel_rfl
@[go_sem] theorem T76_ok : wae T76 = true := by kernel_rfl
noncomputable def T77 : Ty := (wad Tryd.prog 77).getD ⟨.invalid, 0, 0, none⟩
@[go_sem] theorem ty77 : wad Tryd.prog 77 = some T77 := by kernel_rfl
noncomputable def fs77 : Array Field := match T77.desc with | .struct fs => fs | _ => #[]
@[go_sem] theorem T77_desc : T77.desc = .struct fs77 := by kernel_rfl
noncomputable def fs77_0 : Field := fs77.getD 0 default
@[go_sem] theorem fs77_at0 : fs77[0]? = some fs77_0 := by kernel_rfl
@[go_sem] theorem fs77_0_type : fs77_0.type = 26 := by kernel_rfl
@[go_sem] theorem fs77_0_off : fs77_0.offset = 0 := by kernel_rfl
@[go_sem] theorem fo77_0 : wat Tryd.prog 77 0 = some (0, 1) := by kernel_rfl
noncomputable def fs77_1 : Field := fs77.getD 1 default
@[go_sem] theorem fs77_at1 : fs77[1]? = some fs77_1 := by kernel_rfl
@[go_sem] theorem fs77_1_type : fs77_1.type = 26 := by kernel_rfl
@[go_sem] theorem fs77_1_off : fs77_1.offset = 1 := by kernel_rfl
@[go_sem] theorem fo77_1 : wat Tryd.prog 77 1 = some (1, 1) := by kernel_rfl
noncomputable def fs77_2 : Field := fs77.getD 2 default
@[go_sem] theorem fs77_at2 : fs77[2]? = some fs77_2 := by kernel_rfl
@[go_sem] theorem fs77_2_type : fs77_2.type = 76 := by kernel_rfl
@[go_sem] theorem fs77_2_off : fs77_2.offset = 2 := by kernel_rfl
@[go_sem] theorem fo77_2 : wat Tryd.prog 77 2 = some (2, 1) := by kernel_rfl
@[go_sem] theorem pl77 : wbD Tryd.prog fs77.toList = some [(0, 1), (1, 1), (2, 1)] := by kernel_rfl
@[go_sem] theorem T77_size : T77.size = 3 := by kernel_rfl
@[go_sem] theorem T77_bytes : T77.bytes = 72 := by kernel_rfl
@[go_sem] theorem T77_cells : zeroCells T77.zero = some [.d .nilslice, .d .nilslice, .d .nilslice] := by kernel_rfl
@[go_sem] theorem T77_zero : waf T77 = some (.d (.agg [.nilslice, .nilslice, .nilslice])) := by kernel_rfl
@[go_sem] theorem T77_ok : wae T77 = true := by kernel_rfl
noncomputable def T78 : Ty := (wad Tryd.prog 78).getD ⟨.invalid, 0, 0, none⟩
@[go_sem] theorem ty78 : wad Tryd.prog 78 = some T78 := by kernel_rfl
noncomputable def fs78 : Array Field := match T78.desc with | .struct fs => fs | _ => #[]
@[go_sem] theorem T78_desc : T78.desc = .struct fs78 := by kernel_rfl
noncomputable def fs78_0 : Field := fs78.getD 0 default
@[go_sem] theorem fs78_at0 : fs78[0]? = some fs78_0 := by kernel_rfl
@[go_sem] theorem fs78_0_type : fs78_0.type = 26 := by kernel_rfl
@[go_sem] theorem fs78_0_off : fs78_0.offset = 0 := by kernel_rfl
@[go_sem] theorem fo78_0 : wat Tryd.prog 78 0 = some (0, 1) := by kernel_rfl
noncomputable def fs78_1 : Field := fs78.getD 1 default
@[go_sem] theorem fs78_at1 : fs78[1]? = some fs78_1 := by kernel_rfl
@[go_sem] theorem fs78_1_type : fs78_1.type = 26 := by kernel_rfl
@[go_sem] theorem fs78_1_off : fs78_1.offset = 1 := by kernel_rfl
@[go_sem] theorem fo78_1 : wat Tryd.prog 78 1 = some (1, 1) := by kernel_rfl
noncomputable def fs78_2 : Field := fs78.getD 2 default
@[go_sem] theorem fs78_at2 : fs78[2]? = some fs78_2 := by kernel_rfl
@[go_sem] theorem fs78_2_type : fs78_2.type = 76 := by kernel_rfl
@[go_sem] theorem fs78_2_off : fs78_2.offset = 2 := by kernel_rfl
@[go_sem] theorem fo78_2 : wat Tryd.prog 78 2 = some (2, 1) := by kernel_rfl
@[go_sem] theorem pl78 : wbD Tryd.prog fs78.toList = some [(0, 1), (1, 1), (2, 1)] := by kernel_rfl
@[go_sem] theorem T78_size : T78.size = 3 := by kernel_rfl
@[go_sem] theorem T78_bytes : T78.bytes = 72 := by kernel_rfl
@[go_sem] theorem T78_cells : zeroCells T78.zero = some [.d .nilslice, .d .nilslice, .d .nilslice] := by kernel_rfl
@[go_sem] theorem T78_zero : waf T78 = some (.d (.agg [.nilslice, .nilslice, .nilslice])) := by kernel_rfl
@[go_sem] theorem T78_ok : wae T78 = true := by kernel_rfl
noncomputable def T79 : Ty := (wad Tryd.prog 79).getD ⟨.invalid, 0, 0, none⟩
@[go_sem] theorem ty79 : wad Tryd.prog 79 = some T79 := by kernel_rfl
@[go_sem] theorem T79_desc : T79.desc = .slice 26 := by kernel_rfl
@[go_sem] theorem es79 : wbE Tryd.prog 79 = some 1 := by kernel_rfl
@[go_sem] theorem T79_size : T79.size = 1 := by kernel_rfl
@[go_sem] theorem T79_bytes : T79.bytes = 24 := by kernel_rfl
@[go_sem] theorem T79_zero : waf T79 = some (.d .nilslice) := by kernel_rfl
@[go_sem] theorem T79_ok : wae T79 = true := by kernel_rfl
noncomputable def T80 : Ty := (wad Tryd.prog 80).getD ⟨.invalid, 0, 0, none⟩
@[go_sem] theorem ty80 : wad Tryd.prog 80 = some T80 := by kernel_rfl
noncomputable def fs80 : Array Field := match T80.desc with | .struct fs => fs | _ => #[]
@[go_sem] theorem T80_desc : T80.desc = .struct fs80 := by kernel_rfl
noncomputable def fs80_0 : Field := fs80.getD 0 default
@[go_sem] theorem fs80_at0 : fs80[0]? = some fs80_0 := by kernel_rfl
@[go_sem] theorem fs80_0_type : fs80_0.type = 3 := by kernel_rfl
@[go_sem] theorem fs80_0_off : fs80_0.offset = 0 := by kernel_rfl
@[go_sem] theorem fo80_0 : wat Tryd.prog 80 0 = some (0, 1) := by kernel_rfl
noncomputable def fs80_1 : Field := fs80.getD 1 default
@[go_sem] theorem fs80_at1 : fs80[1]? = some fs80_1 := by kernel_rfl
@[go_sem] theorem fs80_1_type : fs80_1.type = 22 := by kernel_rfl
@[go_sem] theorem fs80_1_off : fs80_1.offset = 1 := by kernel_rfl
@[go_sem] theorem fo80_1 : wat Tryd.prog 80 1 = some (1, 1) := by kernel_rfl
noncomputable def fs80_2 : Field := fs80.getD 2 default
@[go_sem] theorem fs80_at2 : fs80[2]? = some fs80_2 := by kernel_rfl
@[go_sem] theorem fs80_2_type : fs80_2.type = 78 := by kernel_rfl
@[go_sem] theorem fs80_2_off : fs80_2.offset = 2 := by kernel_rfl
@[go_sem] theorem fo80_2 : wat Tryd.prog 80 2 = some (2, 3) := by kernel_rfl
noncomputable def fs80_3 : Field := fs80.getD 3 default
@[go_sem] theorem fs80_at3 : fs80[3]? = some fs80_3 := by kernel_rfl
@[go_sem] theorem fs80_3_type : fs80_3.type = 79 := by kernel_rfl
@[go_sem] theorem fs80_3_off : fs80_3.offset = 5 := by kernel_rfl
@[go_sem] theorem fo80_3 : wat Tryd.prog 80 3 = some (5, 1) := by kernel_rfl
noncomputable def fs80_4 : Field := fs80.getD 4 default
@[go_sem] theorem fs80_at4 : fs80[4]? = some fs80_4 := by kernel_rfl
@[go_sem] theorem fs80_4_type : fs80_4.type = 26 := by kernel_rfl
@[go_sem] theorem fs80_4_off : fs80_4.offset = 6 := by kernel_rfl
@[go_sem] theorem fo80_4 : wat Tryd.prog 80 4 = some (6, 1) := by kernel_rfl
noncomputable def fs80_5 : Field := fs80.getD 5 default
@[go_sem] theorem fs80_at5 : fs80[5]? = some fs80_5 := by kernel_rfl
@[go_sem] theorem fs80_5_type : fs80_5.type = 32 := by kernel_rfl
@[go_sem] theorem fs80_5_off : fs80_5.offset = 7 := by kernel_rfl
@[go_sem] theorem fo80_5 : wat Tryd.prog 80 5 = some (7, 1) := by kernel_rfl
@[go_sem] theorem pl80 : wbD Tryd.prog fs80.toList = some [(0, 1), (1, 1), (2, 3), (5, 1), (6, 1), (7, 1)] := by kernel_rfl
@[go_sem] theorem T80_size : T80.size = 8 := by kernel_rfl
@[go_sem] theorem T80_bytes : T80.bytes = 176 := by kernel_rfl
@[go_sem] theorem T80_cells : zeroCells T80.zero = some [.d (.int .i64 0), .d .nilslice, .d .nilslice, .d .nilslice, .d .nilslice, .d .nilslice, .d .nilslice, .d .nilslice] := by kernel_rfl
@[go_sem] theorem T80_zero : waf T80 = some (.d (.agg [(.int .i64 0), .nilslice, .nilslice, .nilslice, .nilslice, .nilslice, .nilslice, .nilslice])) := by kernel_rfl
@[go_sem] theorem T80_ok : wae T80 = true := by kernel_rfl
noncomputable def T84 : Ty := (wad Tryd.prog 84).getD ⟨.invalid, 0, 0, none⟩
@[go_sem] theorem ty84 : wad Tryd.prog 84 = some T84 := by kernel_rfl
@[go_sem] theorem T84_desc : T84.desc = .func #[22, 3, 3] #[26] false := by kernel_rfl
@[go_sem] theorem T84_size : T84.size = 1 := by kernel_rfl
@[go_sem] theorem T84_bytes : T84.bytes = 8 := by kernel_rfl
@[go_sem] theorem T84_zero : waf T84 = some (.d .nilfunc) := by kernel_rfl
@[go_sem] theorem T84_ok : wae T84 = true := by kernel_rfl
noncomputable def T86 : Ty := (wad Tryd.prog 86).getD ⟨.invalid, 0, 0, none⟩
@[go_sem] theorem ty86 : wad Tryd.prog 86 = some T86 := by kernel_rfl
@[go_sem] theorem T86_desc : T86.desc = .func #[3, 3] #[3] false := by kernel_rfl
@[go_sem] theorem T86_size : T86.size = 1 := by kernel_rfl
@[go_sem] theorem T86_bytes : T86.bytes = 8 := by kernel_rfl
@[go_sem] theorem T86_zero : waf T86 = some (.d .nilfunc) := by kernel_rfl
@[go_sem] theorem T86_ok : wae T86 = true := by kernel_rfl
noncomputable def T88 : Ty := (wad Tryd.prog 88).getD ⟨.invalid, 0, 0, none⟩
@[go_sem] theorem ty88 : wad Tryd.prog 88 = some T88 := by kernel_rfl
@[go_sem] theorem T88_desc : T88.desc = .pointer 92 := by kernel_rfl
@[go_sem] theorem T88_size : T88.size = 1 := by kernel_rfl
@[go_sem] theorem T88_bytes : T88.bytes = 8 := by kernel_rfl
@[go_sem] theorem T88_zero : waf T88 = some (.d .nilptr) := by kernel_rfl
@[go_sem] theorem T88_ok : wae T88 = true := by kernel_rfl
noncomputable def T89 : Ty := (wad Tryd.prog 89).getD ⟨.invalid, 0, 0, none⟩
@[go_sem] theorem ty89 : wad Tryd.prog 89 = some T89 := by kernel_rfl
@[go_sem] theorem T89_desc : T89.desc = .map 121 3 := by kernel_rfl
@[go_sem] theorem T89_size : T89.size = 1 := by kernel_rfl
@[go_sem] theorem T89_bytes : T89.bytes = 8 := by kernel_rfl
@[go_sem] theorem T89_zero : waf T89 = some (.d .nilmap) := by kernel_rfl
@[go_sem] theorem T89_ok : wae T89 = true := by kernel_rfl
noncomputable def T90 : Ty := (wad Tryd.prog 90).getD ⟨.invalid, 0, 0, none⟩
@[go_sem] theorem ty90 : wad Tryd.prog 90 = some T90 := by kernel_rfl
@[go_sem] theorem T90_desc : T90.desc = .map 9 3 := by kernel_rfl
@[go_sem] theorem T90_size : T90.size = 1 := by kernel_rfl
@[go_sem] theorem T90_bytes : T90.bytes = 8 := by kernel_rfl
@[go_sem] theorem T90_zero : waf T90 = some (.d .nilmap) := by kernel_rfl
@[go_sem] theorem T90_ok : wae T90 = true := by kernel_rfl
noncomputable def T91 : Ty := (wad Tryd.prog 91).getD ⟨.invalid, 0, 0, none⟩
@[go_sem] theorem ty91 : wad Tryd.prog 91 = some T91 := by kernel_rfl
noncomputable def fs91 : Array Field := match T91.desc with | .struct fs => fs | _ => #[]
@[go_sem] theorem T91_desc : T91.desc = .struct fs91 := by kernel_rfl
noncomputable def fs91_0 : Field := fs91.getD 0 default
@[go_sem] theorem fs91_at0 : fs91[0]? = some fs91_0 := by kernel_rfl
@[go_sem] theorem fs91_0_type : fs91_0.type = 3 := by kernel_rfl
@[go_sem] theorem fs91_0_off : fs91_0.offset = 0 := by kernel_rfl
@[go_sem] theorem fo91_0 : wat Tryd.prog 91 0 = some (0, 1) := by kernel_rfl
noncomputable def fs91_1 : Field := fs91.getD 1 default
@[go_sem] theorem fs91_at1 : fs91[1]? = some fs91_1 := by kernel_rfl
@[go_sem] theorem fs91_1_type : fs91_1.type = 22 := by kernel_rfl
@[go_sem] theorem fs91_1_off : fs91_1.offset = 1 := by kernel_rfl
@[go_sem] theorem fo91_1 : wat Tryd.prog 91 1 = some (1, 1) := by kernel_rfl
noncomputable def fs91_2 : Field := fs91.getD 2 default
@[go_sem] theorem fs91_at2 : fs91[2]? = some fs91_2 := by kernel_rfl
@[go_sem] theorem fs91_2_type : fs91_2.type = 89 := by kernel_rfl
@[go_sem] theorem fs91_2_off : fs91_2.offset = 2 := by kernel_rfl
@[go_sem] theorem fo91_2 : wat Tryd.prog 91 2 = some (2, 1) := by kernel_rfl
noncomputable def fs91_3 : Field := fs91.getD 3 default
@[go_sem] theorem fs91_at3 : fs91[3]? = some fs91_3 := by kernel_rfl
@[go_sem] theorem fs91_3_type : fs91_3.type = 90 := by kernel_rfl
@[go_sem] theorem fs91_3_off : fs91_3.offset = 3 := by kernel_rfl
@[go_sem] theorem fo91_3 : wat Tryd.prog 91 3 = some (3, 1) := by kernel_rfl
noncomputable def fs91_4 : Field := fs91.getD 4 default
@[go_sem] theorem fs91_at4 : fs91[4]? = some fs91_4 := by kernel_rfl
@[go_sem] theorem fs91_4_type : fs91_4.type = 32 := by kernel_rfl
@[go_sem] theorem fs91_4_off : fs91_4.offset = 4 := by kernel_rfl
@[go_sem] theorem fo91_4 : wat Tryd.prog 91 4 = some (4, 1) := by kernel_rfl
@[go_sem] theorem pl91 : wbD Tryd.prog fs91.toList = some [(0, 1), (1, 1), (2, 1), (3, 1), (4, 1)] := by kernel_rfl
@[go_sem] theorem T91_size : T91.size = 5 := by kernel_rfl
@[go_sem] theorem T91_bytes : T91.bytes = 72 := by kernel_rfl
@[go_sem] theorem T91_cells : zeroCells T91.zero = some [.d (.int .i64 0), .d .nilslice, .d .nilmap, .d .nilmap, .d .nilslice] := by kernel_rfl
@[go_sem] theorem T91_zero : waf T91 = some (.d (.agg [(.int .i64 0), .nilslice, .nilmap, .nilmap, .nilslice])) := by kernel_rfl
@[go_sem] theorem T91_ok : wae T91 = true := by kernel_rfl
noncomputable def T92 : Ty := (wad Tryd.prog 92).getD ⟨.invalid, 0, 0, none⟩
@[go_sem] theorem ty92 : wad Tryd.prog 92 = some T92 := by kernel_rfl
noncomputable def fs92 : Array Field := match T92.desc with | .struct fs => fs | _ => #[]
@[go_sem] theorem T92_desc : T92.desc = .struct fs92 := by kernel_rfl
noncomputable def fs92_0 : Field := fs92.getD 0 default
@[go_sem] theorem fs92_at0 : fs92[0]? = some fs92_0 := by kernel_rfl
@[go_sem] theorem fs92_0_type : fs92_0.type = 3 := by kernel_rfl
@[go_sem] theorem fs92_0_off : fs92_0.offset = 0 := by kernel_rfl
@[go_sem] theorem fo92_0 : wat Tryd.prog 92 0 = some (0, 1) := by kernel_rfl
noncomputable def fs92_1 : Field := fs92.getD 1 default
@[go_sem] theorem fs92_at1 : fs92[1]? = some fs92_1 := by kernel_rfl
@[go_sem] theorem fs92_1_type : fs92_1.type = 22 := by kernel_rfl
@[go_sem] theorem fs92_1_off : fs92_1.offset = 1 := by kernel_rfl
@[go_sem] theorem fo92_1 : wat Tryd.prog 92 1 = some (1, 1) := by kernel_rfl
noncomputable def fs92_2 : Field := fs92.getD 2 default
@[go_sem] theorem fs92_at2 : fs92[2]? = some fs92_2 := by kernel_rfl
@[go_sem] theorem fs92_2_type : fs92_2.type = 89 := by kernel_rfl
@[go_sem] theorem fs92_2_off : fs92_2.offset = 2 := by kernel_rfl
@[go_sem] theorem fo92_2 : wat Tryd.prog 92 2 = some (2, 1) := by kernel_rfl
noncomputable def fs92_3 : Field := fs92.getD 3 default
@[go_sem] theorem fs92_at3 : fs92[3]? = some fs92_3 := by kernel_rfl
@[go_sem] theorem fs92_3_type : fs92_3.type = 90 := by kernel_rfl
@[go_sem] theorem fs92_3_off : fs92_3.offset = 3 := by kernel_rfl
@[go_sem] theorem fo92_3 : wat Tryd.prog 92 3 = some (3, 1) := by kernel_rfl
noncomputable def fs92_4 : Field := fs92.getD 4 default
@[go_sem] theorem fs92_at4 : fs92[4]? = some fs92_4 := by kernel_rfl
@[go_sem] theorem fs92_4_type : fs92_4.type = 32 := by kernel_rfl
@[go_sem] theorem fs92_4_off : fs92_4.offset = 4 := by kernel_rfl
@[go_sem] theorem fo92_4 : wat Tryd.prog 92 4 = some (4, 1) := by kernel_rfl
@[go_sem] theorem pl92 : wbD Tryd.prog fs92.toList = some [(0, 1), (1, 1), (2, 1), (3, 1), (4, 1)] := by kernel_rfl
@[go_sem] theorem T92_size : T92.size = 5 := by kernel_rfl
@[go_sem] theorem T92_bytes : T92.bytes = 72 := by kernel_rfl
@[go_sem] theorem T92_cells : zeroCells T92.zero = some [.d (.int .i64 0), .d .nilslice, .d .nilmap, .d .nilmap, .d .nilslice] := by kernel_rfl
@[go_sem] theorem T92_zero : waf T92 = some (.d (.agg [(.int .i64 0), .nilslice, .nilmap, .nilmap, .nilslice])) := by kernel_rfl
@[go_sem] theorem T92_ok : wae T92 = true := by kernel_rfl
noncomputable def T93 : Ty := (wad Tryd.prog 93).getD ⟨.invalid, 0, 0, none⟩
@[go_sem] theorem ty93 : wad Tryd.prog 93 = some T93 := by kernel_rfl
@[go_sem] theorem T93_desc : T93.desc = .func #[3, 95] #[3] false := by kernel_rfl
@[go_sem] theorem T93_size : T93.size = 1 := by kernel_rfl
@[go_sem] theorem T93_bytes : T93.bytes = 8 := by kernel_rfl
@[go_sem] theorem T93_zero : waf T93 = some (.d .nilfunc) := by kernel_rfl
@[go_sem] theorem T93_ok : wae T93 = true := by kernel_rfl
noncomputable def T94 : Ty := (wad Tryd.prog 94).getD ⟨.invalid, 0, 0, none⟩
@[go_sem] theorem ty94 : wad Tryd.prog 94 = some T94 := by kernel_rfl
@[go_sem] theorem T94_desc : T94.desc = .int .u32 := by kernel_rfl
@[go_sem] theorem T94_size : T94.size = 1 := by kernel_rfl
@[go_sem] theorem T94_bytes : T94.bytes = 4 := by kernel_rfl
@[go_sem] theorem T94_zero : waf T94 = some (.d (.int .u32 0)) := by kernel_rfl
@[go_sem] theorem T94_ok : wae T94 = true := by kernel_rfl
noncomputable def T95 : Ty := (wad Tryd.prog 95).getD ⟨.invalid, 0, 0, none⟩
@[go_sem] theorem ty95 : wad Tryd.prog 95 = some T95 := by kernel_rfl
@[go_sem] theorem T95_desc : T95.desc = .int .u32 := by kernel_rfl
@[go_sem] theorem T95_size : T95.size = 1 := by kernel_rfl
@[go_sem] theorem T95_bytes : T95.bytes = 4 := by kernel_rfl
@[go_sem] theorem T95_zero : waf T95 = some (.d (.int .u32 0)) := by kernel_rfl
@[go_sem] theorem T95_ok : wae T95 = true := by kernel_rfl
noncomputable def T97 : Ty := (wad Tryd.prog 97).getD ⟨.invalid, 0, 0, none⟩
@[go_sem] theorem ty97 : wad Tryd.prog 97 = some T97 := by kernel_rfl
@[go_sem] theorem T97_desc : T97.desc = .func #[3] #[32] false := by kernel_rfl
@[go_sem] theorem T97_size : T97.size = 1 := by kernel_rfl
@[go_sem] theorem T97_bytes : T97.bytes = 8 := by kernel_rfl
@[go_sem] theorem T97_zero : waf T97 = some (.d .nilfunc) := by kernel_rfl
@[go_sem] theorem T97_ok : wae T97 = true := by kernel_rfl
noncomputable def T98 : Ty := (wad Tryd.prog 98).getD ⟨.invalid, 0, 0, none⟩
@[go_sem] theorem ty98 : wad Tryd.prog 98 = some T98 := by kernel_rfl
@[go_sem] theorem T98_desc : T98.desc = .func #[3, 22] #[26] false := by kernel_rfl
@[go_sem] theorem T98_size : T98.size = 1 := by kernel_rfl
@[go_sem] theorem T98_bytes : T98.bytes = 8 := by kernel_rfl
@[go_sem] theorem T98_zero : waf T98 = some (.d .nilfunc) := by kernel_rfl
@[go_sem] theorem T98_ok : wae T98 = true := by kernel_rfl
noncomputable def T99 : Ty := (wad Tryd.prog 99).getD ⟨.invalid, 0, 0, none⟩
@[go_sem] theorem ty99 : wad Tryd.prog 99 = some T99 := by kernel_rfl
@[go_sem] theorem T99_desc : T99.desc = .func #[3, 22, 22] #[26, 4] false := by kernel_rfl
@[go_sem] theorem T99_size : T99.size = 1 := by kernel_rfl
@[go_sem] theorem T99_bytes : T99.bytes = 8 := by kernel_rfl
@[go_sem] theorem T99_zero : waf T99 = some (.d .nilfunc) := by kernel_rfl
@[go_sem] theorem T99_ok : wae T99 = true := by kernel_rfl
noncomputable def T100 : Ty := (wad Tryd.prog 100).getD ⟨.invalid, 0, 0, none⟩
@[go_sem] theorem ty100 : wad Tryd.prog 100 = some T100 := by kernel_rfl
@[go_sem] theorem T100_desc : T100.desc = .pointer 102 := by kernel_rfl
@[go_sem] theorem T100_size : T100.size = 1 := by kernel_rfl
@[go_sem] theorem T100_bytes : T100.bytes = 8 := by kernel_rfl
@[go_sem] theorem T100_zero : waf T100 = some (.d .nilptr) := by kernel_rfl
@[go_sem] theorem T100_ok : wae T100 = true := by kernel_rfl
noncomputable def T101 : Ty := (wad Tryd.prog 101).getD ⟨.invalid, 0, 0, none⟩
@[go_sem] theorem ty101 : wad Tryd.prog 101 = some T101 := by kernel_rfl
noncomputable def fs101 : Array Field := match T101.desc with | .struct fs => fs | _ => #[]
@[go_sem] theorem T101_desc : T101.desc = .struct fs101 := by kernel_rfl
noncomputable def fs101_0 : Field := fs101.getD 0 default
@[go_sem] theorem fs101_at0 : fs101[0]? = some fs101_0 := by kernel_rfl
@[go_sem] theorem fs101_0_type : fs101_0.type = 3 := by kernel_rfl
@[go_sem] theorem fs101_0_off : fs101_0.offset = 0 := by kernel_rfl
@[go_sem] theorem fo101_0 : wat Tryd.prog 101 0 = some (0, 1) := by kernel_rfl
noncomputable def fs101_1 : Field := fs101.getD 1 default
@[go_sem] theorem fs101_at1 : fs101[1]? = some fs101_1 := by kernel_rfl
@[go_sem] theorem fs101_1_type : fs101_1.type = 22 := by kernel_rfl
@[go_sem] theorem fs101_1_off : fs101_1.offset = 1 := by kernel_rfl
@[go_sem] theorem fo101_1 : wat Tryd.prog 101 1 = some (1, 1) := by kernel_rfl
noncomputable def fs101_2 : Field := fs101.getD 2 default
@[go_sem] theorem fs101_at2 : fs101[2]? = some fs101_2 := by kernel_rfl
@[go_sem] theorem fs101_2_type : fs101_2.type = 22 := by kernel_rfl
@[go_sem] theorem fs101_2_off : fs101_2.offset = 2 := by kernel_rfl
@[go_sem] theorem fo101_2 : wat Tryd.prog 101 2 = some (2, 1) := by kernel_rfl
noncomputable def fs101_3 : Field := fs101.getD 3 default
@[go_sem] theorem fs101_at3 : fs101[3]? = some fs101_3 := by kernel_rfl
@[go_sem] theorem fs101_3_type : fs101_3.type = 78 := by kernel_rfl
@[go_sem] theorem fs101_3_off : fs101_3.offset = 3 := by kernel_rfl
@[go_sem] theorem fo101_3 : wat Tryd.prog 101 3 = some (3, 3) := by kernel_rfl
@[go_sem] theorem pl101 : wbD Tryd.prog fs101.toList = some [(0, 1), (1, 1), (2, 1), (3, 3)] := by kernel_rfl
@[go_sem] theorem T101_size : T101.size = 6 := by kernel_rfl
@[go_sem] theorem T101_bytes : T101.bytes = 128 := by kernel_rfl
@[go_sem] theorem T101_cells : zeroCells T101.zero = some [.d (.int .i64 0), .d .nilslice, .d .nilslice, .d .nilslice, .d .nilslice, .d .nilslice] := by kernel_rfl
@[go_sem] theorem T101_zero : waf T101 = some (.d (.agg [(.int .i64 0), .nilslice, .nilslice, .nilslice, .nilslice, .nilslice])) := by kernel_rfl
@[go_sem] theorem T101_ok : wae T101 = true := by kernel_rfl
noncomputable def T102 : Ty := (wad Tryd.prog 102).getD ⟨.invalid, 0, 0, none⟩
@[go_sem] theorem ty102 : wad Tryd.prog 102 = some T102 := by kernel_rfl
noncomputable def fs102 : Array Field := match T102.desc with | .struct fs => fs | _ => #[]
@[go_sem] theorem T102_desc : T102.desc = .struct fs102 := by kernel_rfl
noncomputable def fs102_0 : Field := fs102.getD 0 default
@[go_sem] theorem fs102_at0 : fs102[0]? = some fs102_0 := by kernel_rfl
@[go_sem] theorem fs102_0_type : fs102_0.type = 3 := by kernel_rfl
@[go_sem] theorem fs102_0_off : fs102_0.offset = 0 := by kernel_rfl
@[go_sem] theorem fo102_0 : wat Tryd.prog 102 0 = some (0, 1) := by kernel_rfl
noncomputable def fs102_1 : Field := fs102.getD 1 default
@[go_sem] theorem fs102_at1 : fs102[1]? = some fs102_1 := by kernel_rfl
@[go_sem] theorem fs102_1_type : fs102_1.type = 22 := by kernel_rfl
@[go_sem] theorem fs102_1_off : fs102_1.offset = 1 := by kernel_rfl
@[go_sem] theorem fo102_1 : wat Tryd.prog 102 1 = some (1, 1) := by kernel_rfl
noncomputable def fs102_2 : Field := fs102.getD 2 default
@[go_sem] theorem fs102_at2 : fs102[2]? = some fs102_2 := by kernel_rfl
@[go_sem] theorem fs102_2_type : fs102_2.type = 22 := by kernel_rfl
@[go_sem] theorem fs102_2_off : fs102_2.offset = 2 := by kernel_rfl
@[go_sem] theorem fo102_2 : wat Tryd.prog 102 2 = some (2, 1) := by kernel_rfl
noncomputable def fs102_3 : Field := fs102.getD 3 default
@[go_sem] theorem fs102_at3 : fs102[3]? = some fs102_3 := by kernel_rfl
@[go_sem] theorem fs102_3_type : fs102_3.type = 78 := by kernel_rfl
@[go_sem] theorem fs102_3_off : fs102_3.offset = 3 := by kernel_rfl
@[go_sem] theorem fo102_3 : wat Tryd.prog 102 3 = some (3, 3) := by kernel_rfl
@[go_sem] theorem pl102 : wbD Tryd.prog fs102.toList = some [(0, 1), (1, 1), (2, 1), (3, 3)] := by kernel_rfl
@[go_sem] theorem T102_size : T102.size = 6 := by kernel_rfl
@[go_sem] theorem T102_bytes : T102.bytes = 128 := by kernel_rfl
@[go_sem] theorem T102_cells : zeroCells T102.zero = some [.d (.int .i64 0), .d .nilslice, .d .nilslice, .d .nilslice, .d .nilslice, .d .nilslice] := by kernel_rfl
@[go_sem] theorem T102_zero : waf T102 = some (.d (.agg [(.int .i64 0), .nilslice, .nilslice, .nilslice, .nilslice, .nilslice])) := by kernel_rfl
@[go_sem] theorem T102_ok : wae T102 = true := by kernel_rfl
noncomputable def T103 : Ty := (wad Tryd.prog 103).getD ⟨.invalid, 0, 0, none⟩
@[go_sem] theorem ty103 : wad Tryd.prog 103 = some T103 := by kernel_rfl
@[go_sem] theorem T103_desc : T103.desc = .func #[3, 3, 3] #[26, 4] false := by kernel_rfl
@[go_sem] theorem T103_size : T103.size = 1 := by kernel_rfl
@[go_sem] theorem T103_bytes : T103.bytes = 8 := by kernel_rfl
@[go_sem] theorem T103_zero : waf T103 = some (.d .nilfunc) := by kernel_rfl
@[go_sem] theorem T103_ok : wae T103 = true := by kernel_rfl
noncomputable def T104 : Ty := (wad Tryd.prog 104).getD ⟨.invalid, 0, 0, none⟩
@[go_sem] theorem ty104 : wad Tryd.prog 104 = some T104 := by kernel_rfl
@[go_sem] theorem T104_desc : T104.desc = .func #[22, 26] #[3] false := by kernel_rfl
@[go_sem] theorem T104_size : T104.size = 1 := by kernel_rfl
@[go_sem] theorem T104_bytes : T104.bytes = 8 := by kernel_rfl
@[go_sem] theorem T104_zero : waf T104 = some (.d .nilfunc) := by kernel_rfl
@[go_sem] theorem T104_ok : wae T104 = true := by kernel_rfl
noncomputable def T105 : Ty := (wad Tryd.prog 105).getD ⟨.invalid, 0, 0, none⟩
@[go_sem] theorem ty105 : wad Tryd.prog 105 = some T105 := by kernel_rfl
@[go_sem] theorem T105_desc : T105.desc = .func #[3] #[4] false := by kernel_rfl
@[go_sem] theorem T105_size : T105.size = 1 := by kernel_rfl
@[go_sem] theorem T105_bytes : T105.bytes = 8 := by kernel_rfl
@[go_sem] theorem T105_zero : waf T105 = some (.d .nilfunc) := by kernel_rfl
@[go_sem] theorem T105_ok : wae T105 = true := by kernel_rfl
noncomputable def T106 : Ty := (wad Tryd.prog 106).getD ⟨.invalid, 0, 0, none⟩
@[go_sem] theorem ty106 : wad Tryd.prog 106 = some T106 := by kernel_rfl
@[go_sem] theorem T106_desc : T106.desc = .func #[32, 108] #[4] false := by kernel_rfl
@[go_sem] theorem T106_size : T106.size = 1 := by kernel_rfl
@[go_sem] theorem T106_bytes : T106.bytes = 8 := by kernel_rfl
@[go_sem] theorem T106_zero : waf T106 = some (.d .nilfunc) := by kernel_rfl
@[go_sem] theorem T106_ok : wae T106 = true := by kernel_rfl
noncomputable def T107 : Ty := (wad Tryd.prog 107).getD ⟨.invalid, 0, 0, none⟩
@[go_sem] theorem ty107 : wad Tryd.prog 107 = some T107 := by kernel_rfl
@[go_sem] theorem T107_desc : T107.desc = .func #[3, 32, 37] #[4] false := by kernel_rfl
@[go_sem] theorem T107_size : T107.size = 1 := by kernel_rfl
@[go_sem] theorem T107_bytes : T107.bytes = 8 := by kernel_rfl
@[go_sem] theorem T107_zero : waf T107 = some (.d .nilfunc) := by kernel_rfl
@[go_sem] theorem T107_ok : wae T107 = true := by kernel_rfl
noncomputable def T108 : Ty := (wad Tryd.prog 108).getD ⟨.invalid, 0, 0, none⟩
@[go_sem] theorem ty108 : wad Tryd.prog 108 = some T108 := by kernel_rfl
@[go_sem] theorem T108_desc : T108.desc = .func #[37] #[4] false := by kernel_rfl
@[go_sem] theorem T108_size : T108.size = 1 := by kernel_rfl
@[go_sem] theorem T108_bytes : T108.bytes = 8 := by kernel_rfl
@[go_sem] theorem T108_zero : waf T108 = some (.d .nilfunc) := by kernel_rfl
@[go_sem] theorem T108_ok : wae T108 = true := by kernel_rfl
noncomputable def T109 : Ty := (wad Tryd.prog 109).getD ⟨.invalid, 0, 0, none⟩
@[go_sem] theorem ty109 : wad Tryd.prog 109 = some T109 := by kernel_rfl
@[go_sem] theorem T109_desc : T109.desc = .func #[26, 105] #[3] false := by kernel_rfl
@[go_sem] theorem T109_size : T109.size = 1 := by kernel_rfl
@[go_sem] theorem T109_bytes : T109.bytes = 8 := by kernel_rfl
@[go_sem] theorem T109_zero : waf T109 = some (.d .nilfunc) := by kernel_rfl
@[go_sem] theorem T109_ok : wae T109 = true := by kernel_rfl
noncomputable def T110 : Ty := (wad Tryd.prog 110).getD ⟨.invalid, 0, 0, none⟩
@[go_sem] theorem ty110 : wad Tryd.prog 110 = some T110 := by kernel_rfl
@[go_sem] theorem T110_desc : T110.desc = .func #[3, 32] #[4] false := by kernel_rfl
@[go_sem] theorem T110_size : T110.size = 1 := by kernel_rfl
@[go_sem] theorem T110_bytes : T110.bytes = 8 := by kernel_rfl
@[go_sem] theorem T110_zero : waf T110 = some (.d .nilfunc) := by kernel_rfl
@[go_sem] theorem T110_ok : wae T110 = true := by kernel_rfl
noncomputable def T111 : Ty := (wad Tryd.prog 111).getD ⟨.invalid, 0, 0, none⟩
@[go_sem] theorem ty111 : wad Tryd.prog 111 = some T111 := by kernel_rfl
@[go_sem] theorem T111_desc : T111.desc = .func #[54] #[54] false := by kernel_rfl
@[go_sem] theorem T111_size : T111.size = 1 := by kernel_rfl
@[go_sem] theorem T111_bytes : T111.bytes = 8 := by kernel_rfl
@[go_sem] theorem T111_zero : waf T111 = some (.d .nilfunc) := by kernel_rfl
@[go_sem] theorem T111_ok : wae T111 = true := by kernel_rfl
noncomputable def T112 : Ty := (wad Tryd.prog 112).getD ⟨.invalid, 0, 0, none⟩
@[go_sem] theorem ty112 : wad Tryd.prog 112 = some T112 := by kernel_rfl
@[go_sem] theorem T112_desc : T112.desc = .func #[22, 3, 3] #[22] false := by kernel_rfl
@[go_sem] theorem T112_size : T112.size = 1 := by kernel_rfl
@[go_sem] theorem T112_bytes : T112.bytes = 8 := by kernel_rfl
@[go_sem] theorem T112_zero : waf T112 = some (.d .nilfunc) := by kernel_rfl
@[go_sem] theorem T112_ok : wae T112 = true := by kernel_rfl
noncomputable def T113 : Ty := (wad Tryd.prog 113).getD ⟨.invalid, 0, 0, none⟩
@[go_sem] theorem ty113 : wad Tryd.prog 113 = some T113 := by kernel_rfl
@[go_sem] theorem T113_desc : T113.desc = .slice 22 := by kernel_rfl
@[go_sem] theorem es113 : wbE Tryd.prog 113 = some 1 := by kernel_rfl
@[go_sem] theorem T113_size : T113.size = 1 := by kernel_rfl
@[go_sem] theorem T113_bytes : T113.bytes = 24 := by kernel_rfl
@[go_sem] theorem T113_zero : waf T113 = some (.d .nilslice) := by kernel_rfl
@[go_sem] theorem T113_ok : wae T113 = true := by kernel_rfl
noncomputable def T114 : Ty := (wad Tryd.prog 114).getD ⟨.invalid, 0, 0, none⟩
@[go_sem] theorem ty114 : wad Tryd.prog 114 = some T114 := by kernel_rfl
@[go_sem] theorem T114_desc : T114.desc = .func #[22, 116] #[4] false := by kernel_rfl
@[go_sem] theorem T114_size : T114.size = 1 := by kernel_rfl
@[go_sem] theorem T114_bytes : T114.bytes = 8 := by kernel_rfl
@[go_sem] theorem T114_zero : waf T114 = some (.d .nilfunc) := by kernel_rfl
@[go_sem] theorem T114_ok : wae T114 = true := by kernel_rfl
noncomputable def T115 : Ty := (wad Tryd.prog 115).getD ⟨.invalid, 0, 0, none⟩
@[go_sem] theorem ty115 : wad Tryd.prog 115 = some T115 := by kernel_rfl
@[go_sem] theorem T115_desc : T115.desc = .func #[3, 56] #[4] false := by kernel_rfl
@[go_sem] theorem T115_size : T115.size = 1 := by kernel_rfl
@[go_sem] theorem T115_bytes : T115.bytes = 8 := by kernel_rfl
@[go_sem] theorem T115_zero : waf T115 = some (.d .nilfunc) := by kernel_rfl
@[go_sem] theorem T115_ok : wae T115 = true := by kernel_rfl
noncomputable def T116 : Ty := (wad Tryd.prog 116).getD ⟨.invalid, 0, 0, none⟩
@[go_sem] theorem ty116 : wad Tryd.prog 116 = some T116 := by kernel_rfl
@[go_sem] theorem T116_desc : T116.desc = .func #[56] #[4] false := by kernel_rfl
@[go_sem] theorem T116_size : T116.size = 1 := by kernel_rfl
@[go_sem] theorem T116_bytes : T116.bytes = 8 := by kernel_rfl
@[go_sem] theorem T116_zero : waf T116 = some (.d .nilfunc) := by kernel_rfl
@[go_sem] theorem T116_ok : wae T116 = true := by kernel_rfl
noncomputable def T117 : Ty := (wad Tryd.prog 117).getD ⟨.invalid, 0, 0, none⟩
@[go_sem] theorem ty117 : wad Tryd.prog 117 = some T117 := by kernel_rfl
@[go_sem] theorem T117_desc : T117.desc = .map 121 4 := by kernel_rfl
@[go_sem] theorem T117_size : T117.size = 1 := by kernel_rfl
@[go_sem] theorem T117_bytes : T117.bytes = 8 := by kernel_rfl
@[go_sem] theorem T117_zero : waf T117 = some (.d .nilmap) := by kernel_rfl
@[go_sem] theorem T117_ok : wae T117 = true := by kernel_rfl
noncomputable def T118 : Ty := (wad Tryd.prog 118).getD ⟨.invalid, 0, 0, none⟩
@[go_sem] theorem ty118 : wad Tryd.prog 118 = some T118 := by kernel_rfl
@[go_sem] theorem T118_desc : T118.desc = .func #[3, 95, 95] #[26, 4] false := by kernel_rfl
@[go_sem] theorem T118_size : T118.size = 1 := by kernel_rfl
@[go_sem] theorem T118_bytes : T118.bytes = 8 := by kernel_rfl
@[go_sem] theorem T118_zero : waf T118 = some (.d .nilfunc) := by kernel_rfl
@[go_sem] theorem T118_ok : wae T118 = true := by kernel_rfl
noncomputable def T119 : Ty := (wad Tryd.prog 119).getD ⟨.invalid, 0, 0, none⟩
@[go_sem] theorem ty119 : wad Tryd.prog 119 = some T119 := by kernel_rfl
@[go_sem] theorem T119_desc : T119.desc = .func #[] #[3] false := by kernel_rfl
@[go_sem] theorem T119_size : T119.size = 1 := by kernel_rfl
@[go_sem] theorem T119_bytes : T119.bytes = 8 := by kernel_rfl
@[go_sem] theorem T119_zero : waf T119 = some (.d .nilfunc) := by kernel_rfl
@[go_sem] theorem T119_ok : wae T119 = true := by kernel_rfl
noncomputable def T120 : Ty := (wad Tryd.prog 120).getD ⟨.invalid, 0, 0, none⟩
@[go_sem] theorem ty120 : wad Tryd.prog 120 = some T120 := by kernel_rfl
@[go_sem] theorem egt120 : Tryd.prog.eqGuardType Tryd.prog.depth 120 = false := by kernel_rfl
@[go_sem] theorem T120_desc : T120.desc = .array 3 3 := by kernel_rfl
@[go_sem] theorem es120 : wbE Tryd.prog 120 = none := by kernel_rfl
@[go_sem] theorem ars120 : weJ Tryd.prog 120 = some (3, 1) := by kernel_rfl
@[go_sem] theorem T120_size : T120.size = 3 := by kernel_rfl
@[go_sem] theorem T120_bytes : T120.bytes = 24 := by kernel_rfl
@[go_sem] theorem T120_cells : zeroCells T120.zero = some [.d (.int .i64 0), .d (.int .i64 0), .d (.int .i64 0)] := by kernel_rfl
@[go_sem] theorem T120_zero : waf T120 = some (.d (.agg [(.int .i64 0), (.int .i64 0), (.int .i64 0)])) := by kernel_rfl
@[go_sem] theorem T120_ok : wae T120 = true := by kernel_rfl
noncomputable def T121 : Ty := (wad Tryd.prog 121).getD ⟨.invalid, 0, 0, none⟩
@[go_sem] theorem ty121 : wad Tryd.prog 121 = some T121 := by kernel_rfl
@[go_sem] theorem egt121 : Tryd.prog.eqGuardType Tryd.prog.depth 121 = false := by kernel_rfl
@[go_sem] theorem T121_desc : T121.desc = .array 3 3 := by kernel_rfl
@[go_sem] theorem es121 : wbE Tryd.prog 121 = none := by kernel_rfl
@[go_sem] theorem ars121 : weJ Tryd.prog 121 = some (3, 1) := by kernel_rfl
@[go_sem] theorem T121_size : T121.size = 3 := by kernel_rfl
@[go_sem] theorem T121_bytes : T121.bytes = 24 := by kernel_rfl
@[go_sem] theorem T121_cells : zeroCells T121.zero = some [.d (.int .i64 0), .d (.int .i64 0), .d (.int .i64 0)] := by kernel_rfl
@[go_sem] theorem T121_zero : waf T121 = some (.d (.agg [(.int .i64 0), (.int .i64 0), (.int .i64 0)])) := by kernel_rfl
@[go_sem] theorem T121_ok : wae T121 = true := by kernel_rfl
noncomputable def T122 : Ty := (wad Tryd.prog 122).getD ⟨.invalid, 0, 0, none⟩
@[go_sem] theorem ty122 : wad Tryd.prog 122 = some T122 := by kernel_rfl
@[go_sem] theorem T122_desc : T122.desc = .func #[3, 113] #[26] true := by kernel_rfl
@[go_sem] theorem T122_size : T122.size = 1 := by kernel_rfl
@[go_sem] theorem T122_bytes : T122.bytes = 8 := by kernel_rfl
@[go_sem] theorem T122_zero : waf T122 = some (.d .nilfunc) := by kernel_rfl
@[go_sem] theorem T122_ok : wae T122 = true := by kernel_rfl
noncomputable def T124 : Ty := (wad Tryd.prog 124).getD ⟨.invalid, 0, 0, none⟩
@[go_sem] theorem ty124 : wad Tryd.prog 124 = some T124 := by kernel_rfl
@[go_sem] theorem T124_desc : T124.desc = .func #[3] #[3] false := by kernel_rfl
@[go_sem] theorem T124_size : T124.size = 1 := by kernel_rfl
@[go_sem] theorem T124_bytes : T124.bytes = 8 := by kernel_rfl
@[go_sem] theorem T124_zero : waf T124 = some (.d .nilfunc) := by kernel_rfl
@[go_sem] theorem T124_ok : wae T124 = true := by kernel_rfl
noncomputable def T133 : Ty := (wad Tryd.prog 133).getD ⟨.invalid, 0, 0, none⟩
@[go_sem] theorem ty133 : wad Tryd.prog 133 = some T133 := by kernel_rfl
@[go_sem] theorem T133_desc : T133.desc = .map 3 3 := by kernel_rfl
@[go_sem] theorem T133_size : T133.size = 1 := by kernel_rfl
@[go_sem] theorem T133_bytes : T133.bytes = 8 := by kernel_rfl
@[go_sem] theorem T133_zero : waf T133 = some (.d .nilmap) := by kernel_rfl
@[go_sem] theorem T133_ok : wae T133 = true := by kernel_rfl
noncomputable def T134 : Ty := (wad Tryd.prog 134).getD ⟨.invalid, 0, 0, none⟩
@[go_sem] theorem ty134 : wad Tryd.prog 134 = some T134 := by kernel_rfl
@[go_sem] theorem T134_desc : T134.desc = .func #[26] #[26] false := by kernel_rfl
@[go_sem] theorem T134_size : T134.size = 1 := by kernel_rfl
@[go_sem] theorem T134_bytes : T134.bytes = 8 := by kernel_rfl
@[go_sem] theorem T134_zero : waf T134 = some (.d .nilfunc) := by kernel_rfl
@[go_sem] theorem T134_ok : wae T134 = true := by kernel_rfl
noncomputable def T135 : Ty := (wad Tryd.prog 135).getD ⟨.invalid, 0, 0, none⟩
@[go_sem] theorem ty135 : wad Tryd.prog 135 = some T135 := by kernel_rfl
@[go_sem] theorem T135_desc : T135.desc = .map 121 26 := by kernel_rfl
@[go_sem] theorem T135_size : T135.size = 1 := by kernel_rfl
@[go_sem] theorem T135_bytes : T135.bytes = 8 := by kernel_rfl
@[go_sem] theorem T135_zero : waf T135 = some (.d .nilmap) := by kernel_rfl
@[go_sem] theorem T135_ok : wae T135 = true := by kernel_rfl
noncomputable def T136 : Ty := (wad Tryd.prog 136).getD ⟨.invalid, 0, 0, none⟩
@[go_sem] theorem ty136 : wad Tryd.prog 136 = some T136 := by kernel_rfl
@[go_sem] theorem T136_desc : T136.desc = .func #[3, 95] #[26] false := by kernel_rfl
@[go_sem] theorem T136_size : T136.size = 1 := by kernel_rfl
@[go_sem] theorem T136_bytes : T136.bytes = 8 := by kernel_rfl
@[go_sem] theorem T136_zero : waf T136 = some (.d .nilfunc) := by kernel_rfl
@[go_sem] theorem T136_ok : wae T136 = true := by kernel_rfl
noncomputable def T137 : Ty := (wad Tryd.prog 137).getD ⟨.invalid, 0, 0, none⟩
@[go_sem] theorem ty137 : wad Tryd.prog 137 = some T137 := by kernel_rfl
@[go_sem] theorem T137_desc : T137.desc = .func #[22, 3] #[3] false := by kernel_rfl
@[go_sem] theorem T137_size : T137.size = 1 := by kernel_rfl
@[go_sem] theorem T137_bytes : T137.bytes = 8 := by kernel_rfl
@[go_sem] theorem T137_zero : waf T137 = some (.d .nilfunc) := by kernel_rfl
@[go_sem] theorem T137_ok : wae T137 = true := by kernel_rfl
noncomputable def T142 : Ty := (wad Tryd.prog 142).getD ⟨.invalid, 0, 0, none⟩
@[go_sem] theorem ty142 : wad Tryd.prog 142 = some T142 := by kernel_rfl
@[go_sem] theorem T142_desc : T142.desc = .func #[61] #[4] false := by kernel_rfl
@[go_sem] theorem T142_size : T142.size = 1 := by kernel_rfl
@[go_sem] theorem T142_bytes : T142.bytes = 8 := by kernel_rfl
@[go_sem] theorem T142_zero : waf T142 = some (.d .nilfunc) := by kernel_rfl
@[go_sem] theorem T142_ok : wae T142 = true := by kernel_rfl
noncomputable def T146 : Ty := (wad Tryd.prog 146).getD ⟨.invalid, 0, 0, none⟩
@[go_sem] theorem ty146 : wad Tryd.prog 146 = some T146 := by kernel_rfl
@[go_sem] theorem T146_desc : T146.desc = .pointer 148 := by kernel_rfl
@[go_sem] theorem T146_size : T146.size = 1 := by kernel_rfl
@[go_sem] theorem T146_bytes : T146.bytes = 8 := by kernel_rfl
@[go_sem] theorem T146_zero : waf T146 = some (.d .nilptr) := by kernel_rfl
@[go_sem] theorem T146_ok : wae T146 = true := by kernel_rfl
noncomputable def T148 : Ty := (wad Tryd.prog 148).getD ⟨.invalid, 0, 0, none⟩
@[go_sem] theorem ty148 : wad Tryd.prog 148 = some T148 := by kernel_rfl
noncomputable def fs148 : Array Field := match T148.desc with | .struct fs => fs | _ => #[]
@[go_sem] theorem T148_desc : T148.desc = .struct fs148 := by kernel_rfl
noncomputable def fs148_0 : Field := fs148.getD 0 default
@[go_sem] theorem fs148_at0 : fs148[0]? = some fs148_0 := by kernel_rfl
@[go_sem] theorem fs148_0_type : fs148_0.type = 146 := by kernel_rfl
@[go_sem] theorem fs148_0_off : fs148_0.offset = 0 := by kernel_rfl
@[go_sem] theorem fo148_0 : wat Tryd.prog 148 0 = some (0, 1) := by kernel_rfl
noncomputable def fs148_1 : Field := fs148.getD 1 default
@[go_sem] theorem fs148_at1 : fs148[1]? = some fs148_1 := by kernel_rfl
@[go_sem] theorem fs148_1_type : fs148_1.type = 52 := by kernel_rfl
@[go_sem] theorem fs148_1_off : fs148_1.offset = 1 := by kernel_rfl
@[go_sem] theorem fo148_1 : wat Tryd.prog 148 1 = some (1, 1) := by kernel_rfl
@[go_sem] theorem pl148 : wbD Tryd.prog fs148.toList = some [(0, 1), (1, 1)] := by kernel_rfl
@[go_sem] theorem T148_size : T148.size = 2 := by kernel_rfl
@[go_sem] theorem T148_bytes : T148.bytes = 32 := by kernel_rfl
@[go_sem] theorem T148_cells : zeroCells T148.zero = some [.d .nilptr, .d .nilslice] := by kernel_rfl
@[go_sem] theorem T148_zero : waf T148 = some (.d (.agg [.nilptr, .nilslice])) := by kernel_rfl
@[go_sem] theorem T148_ok : wae T148 = true := by kernel_rfl
noncomputable def T150 : Ty := (wad Tryd.prog 150).getD ⟨.invalid, 0, 0, none⟩
@[go_sem] theorem ty150 : wad Tryd.prog 150 = some T150 := by kernel_rfl
@[go_sem] theorem T150_size : T150.size = 1 := by kernel_rfl
@[go_sem] theorem T150_bytes : T150.bytes = 16 := by kernel_rfl
@[go_sem] theorem T150_zero : waf T150 = some (.d .niliface) := by kernel_rfl
@[go_sem] theorem T150_ok : wae T150 = true := by kernel_rfl
noncomputable def T159 : Ty := (wad Tryd.prog 159).getD ⟨.invalid, 0, 0, none⟩
@[go_sem] theorem ty159 : wad Tryd.prog 159 = some T159 := by kernel_rfl
@[go_sem] theorem T159_desc : T159.desc = .int .u64 := by kernel_rfl
@[go_sem] theorem T159_size : T159.size = 1 := by kernel_rfl
@[go_sem] theorem T159_bytes : T159.bytes = 8 := by kernel_rfl
@[go_sem] theorem T159_zero : waf T159 = some (.d (.int .u64 0)) := by kernel_rfl
@[go_sem] theorem T159_ok : wae T159 = true := by kernel_rfl
noncomputable def T160 : Ty := (wad Tryd.prog 160).getD ⟨.invalid, 0, 0, none⟩
@[go_sem] theorem ty160 : wad Tryd.prog 160 = some T160 := by kernel_rfl
@[go_sem] theorem T160_desc : T160.desc = .pointer 5 := by kernel_rfl
@[go_sem] theorem T160_size : T160.size = 1 := by kernel_rfl
@[go_sem] theorem T160_bytes : T160.bytes = 8 := by kernel_rfl
@[go_sem] theorem T160_zero : waf T160 = some (.d .nilptr) := by kernel_rfl
@[go_sem] theorem T160_ok : wae T160 = true := by kernel_rfl
noncomputable def T162 : Ty := (wad Tryd.prog 162).getD ⟨.invalid, 0, 0, none⟩
@[go_sem] theorem ty162 : wad Tryd.prog 162 = some T162 := by kernel_rfl
@[go_sem] theorem T162_desc : T162.desc = .int .i64 := by kernel_rfl
@[go_sem] theorem T162_size : T162.size = 1 := by kernel_rfl
@[go_sem] theorem T162_bytes : T162.bytes = 8 := by kernel_rfl
@[go_sem] theorem T162_zero : waf T162 = some (.d (.int .i64 0)) := by kernel_rfl
@[go_sem] theorem T162_ok : wae T162 = true := by kernel_rfl
noncomputable def T167 : Ty := (wad Tryd.prog 167).getD ⟨.invalid, 0, 0, none⟩
@[go_sem] theorem ty167 : wad Tryd.prog 167 = some T167 := by kernel_rfl
@[go_sem] theorem T167_desc : T167.desc = .func #[26, 3, 3, 3] #[3, 4] false := by kernel_rfl
@[go_sem] theorem T167_size : T167.size = 1 := by kernel_rfl
@[go_sem] theorem T167_bytes : T167.bytes = 8 := by kernel_rfl
@[go_sem] theorem T167_zero : waf T167 = some (.d .nilfunc) := by kernel_rfl
@[go_sem] theorem T167_ok : wae T167 = true := by kernel_rfl
noncomputable def T168 : Ty := (wad Tryd.prog 168).getD ⟨.invalid, 0, 0, none⟩
@[go_sem] theorem ty168 : wad Tryd.prog 168 = some T168 := by kernel_rfl
@[go_sem] theorem T168_desc : T168.desc = .func #[94] #[3] false := by kernel_rfl
@[go_sem] theorem T168_size : T168.size = 1 := by kernel_rfl
@[go_sem] theorem T168_bytes : T168.bytes = 8 := by kernel_rfl
@[go_sem] theorem T168_zero : waf T168 = some (.d .nilfunc) := by kernel_rfl
@[go_sem] theorem T168_ok : wae T168 = true := by kernel_rfl
noncomputable def T170 : Ty := (wad Tryd.prog 170).getD ⟨.invalid, 0, 0, none⟩
@[go_sem] theorem ty170 : wad Tryd.prog 170 = some T170 := by kernel_rfl
@[go_sem] theorem T170_desc : T170.desc = .int .u64 := by kernel_rfl
@[go_sem] theorem T170_size : T170.size = 1 := by kernel_rfl
@[go_sem] theorem T170_bytes : T170.bytes = 8 := by kernel_rfl
@[go_sem] theorem T170_zero : waf T170 = some (.d (.int .u64 0)) := by kernel_rfl
@[go_sem] theorem T170_ok : wae T170 = true := by kernel_rfl
noncomputable def T174 : Ty := (wad Tryd.prog 174).getD ⟨.invalid, 0, 0, none⟩
@[go_sem] theorem ty174 : wad Tryd.prog 174 = some T174 := by kernel_rfl
@[go_sem] theorem T174_desc : T174.desc = .int .u64 := by kernel_rfl
@[go_sem] theorem T174_size : T174.size = 1 := by kernel_rfl
@[go_sem] theorem T174_bytes : T174.bytes = 8 := by kernel_rfl
@[go_sem] theorem T174_zero : waf T174 = some (.d (.int .u64 0)) := by kernel_rfl
@[go_sem] theorem T174_ok : wae T174 = true := by kernel_rfl
noncomputable def T178 : Ty := (wad Tryd.prog 178).getD ⟨.invalid, 0, 0, none⟩
@[go_sem] theorem ty178 : wad Tryd.prog 178 = some T178 := by kernel_rfl
@[go_sem] theorem T178_desc : T178.desc = .pointer 3 := by kernel_rfl
@[go_sem] theorem T178_size : T178.size = 1 := by kernel_rfl
@[go_sem] theorem T178_bytes : T178.bytes = 8 := by kernel_rfl
@[go_sem] theorem T178_zero : waf T178 = some (.d .nilptr) := by kernel_rfl
@[go_sem] theorem T178_ok : wae T178 = true := by kernel_rfl
noncomputable def T180 : Ty := (wad Tryd.prog 180).getD ⟨.invalid, 0, 0, none⟩
@[go_sem] theorem ty180 : wad Tryd.prog 180 = some T180 := by kernel_rfl
@[go_sem] theorem T180_desc : T180.desc = .array 24 5 := by kernel_rfl
@[go_sem] theorem es180 : wbE Tryd.prog 180 = none := by kernel_rfl
@[go_sem] theorem ars180 : weJ Tryd.prog 180 = some (24, 1) := by kernel_rfl
@[go_sem] theorem T180_size : T180.size = 24 := by kernel_rfl
@[go_sem] theorem T180_bytes : T180.bytes = 24 := by kernel_rfl
@[go_sem] theorem T180_cells : zeroCells T180.zero = some [.d (.int .u8 0), .d (.int .u8 0), .d (.int .u8 0), .d (.int .u8 0), .d (.int .u8 0), .d (.int .u8 0), .d (.int .u8 0), .d (.int .u8 0), .d (.int .u8 0), .d (.int .u8 0), .d (.int .u8 0), .d (.int .u8 0), .d (.int .u8 0), .d (.int .u8 0), .d (.int .u8 0), .d (.int .u8 0), .d (.int .u8 0), .d (.int .u8 0), .d (.int .u8 0), .d (.int .u8 0), .d (.int .u8 0), .d (.int .u8 0), .d (.int .u8 0), .d (.int .u8 0)] := by kernel_rfl
@[go_sem] theorem T180_zero : waf T180 = some (.d (.agg [(.int .u8 0), (.int .u8 0), (.int .u8 0), (.int .u8 0), (.int .u8 0), (.int .u8 0), (.int .u8 0), (.int .u8 0), (.int .u8 0), (.int .u8 0), (.int .u8 0), (.int .u8 0), (.int .u8 0), (.int .u8 0), (.int .u8 0), (.int .u8 0), (.int .u8 0), (.int .u8 0), (.int .u8 0), (.int .u8 0), (.int .u8 0), (.int .u8 0), (.int .u8 0), (.int .u8 0)])) := by kernel_rfl
@[go_sem] theorem T180_ok : wae T180 = true := by kernel_rfl
noncomputable def T184 : Ty := (wad Tryd.prog 184).getD ⟨.invalid, 0, 0, none⟩
@[go_sem] theorem ty184 : wad Tryd.prog 184 = some T184 := by kernel_rfl
@[go_sem] theorem T184_desc : T184.desc = .pointer 174 := by kernel_rfl
@[go_sem] theorem T184_size : T184.size = 1 := by kernel_rfl
@[go_sem] theorem T184_bytes : T184.bytes = 8 := by kernel_rfl
@[go_sem] theorem T184_zero : waf T184 = some (.d .nilptr) := by kernel_rfl
@[go_sem] theorem T184_ok : wae T184 = true := by kernel_rfl
noncomputable def T188 : Ty := (wad Tryd.prog 188).getD ⟨.invalid, 0, 0, none⟩
@[go_sem] theorem ty188 : wad Tryd.prog 188 = some T188 := by kernel_rfl
@[go_sem] theorem T188_desc : T188.desc = .array 20 170 := by kernel_rfl
@[go_sem] theorem es188 : wbE Tryd.prog 188 = none := by kernel_rfl
@[go_sem] theorem ars188 : weJ Tryd.prog 188 = some (20, 1) := by kernel_rfl
@[go_sem] theorem T188_size : T188.size = 20 := by kernel_rfl
@[go_sem] theorem T188_bytes : T188.bytes = 160 := by kernel_rfl
@[go_sem] theorem T188_cells : zeroCells T188.zero = some [.d (.int .u64 0), .d (.int .u64 0), .d (.int .u64 0), .d (.int .u64 0), .d (.int .u64 0), .d (.int .u64 0), .d (.int .u64 0), .d (.int .u64 0), .d (.int .u64 0), .d (.int .u64 0), .d (.int .u64 0), .d (.int .u64 0), .d (.int .u64 0), .d (.int .u64 0), .d (.int .u64 0), .d (.int .u64 0), .d (.int .u64 0), .d (.int .u64 0), .d (.int .u64 0), .d (.int .u64 0)] := by kernel_rfl
@[go_sem] theorem T188_zero : waf T188 = some (.d (.agg [(.int .u64 0), (.int .u64 0), (.int .u64 0), (.int .u64 0), (.int .u64 0), (.int .u64 0), (.int .u64 0), (.int .u64 0), (.int .u64 0), (.int .u64 0), (.int .u64 0), (.int .u64 0), (.int .u64 0), (.int .u64 0), (.int .u64 0), (.int .u64 0), (.int .u64 0), (.int .u64 0), (.int .u64 0), (.int .u64 0)])) := by kernel_rfl
@[go_sem] theorem T188_ok : wae T188 = true := by kernel_rfl
noncomputable def T189 : Ty := (wad Tryd.prog 189).getD ⟨.invalid, 0, 0, none⟩
@[go_sem] theorem ty189 : wad Tryd.prog 189 = some T189 := by kernel_rfl
@[go_sem] theorem T189_desc : T189.desc = .array 65 5 := by kernel_rfl
@[go_sem] theorem es189 : wbE Tryd.prog 189 = none := by kernel_rfl
@[go_sem] theorem ars189 : weJ Tryd.prog 189 = some (65, 1) := by kernel_rfl
@[go_sem] theorem T189_size : T189.size = 65 := by kernel_rfl
@[go_sem] theorem T189_bytes : T189.bytes = 65 := by kernel_rfl
@[go_sem] theorem T189_cells : zeroCells T189.zero = some [.d (.int .u8 0), .d (.int .u8 0), .d (.int .u8 0), .d (.int .u8 0), .d (.int .u8 0), .d (.int .u8 0), .d (.int .u8 0), .d (.int .u8 0), .d (.int .u8 0), .d (.int .u8 0), .d (.int .u8 0), .d (.int .u8 0), .d (.int .u8 0), .d (.int .u8 0), .d (.int .u8 0), .d (.int .u8 0), .d (.int .u8 0), .d (.int .u8 0), .d (.int .u8 0), .d (.int .u8 0), .d (.int .u8 0), .d (.int .u8 0), .d (.int .u8 0), .d (.int .u8 0), .d (.int .u8 0), .d (.int .u8 0), .d (.int .u8 0), .d (.int .u8 0), .d (.int .u8 0), .d (.int .u8 0), .d (.int .u8 0), .d (.int .u8 0), .d (.int .u8 0), .d (.int .u8 0), .d (.int .u8 0), .d (.int .u8 0), .d (.int .u8 0), .d (.int .u8 0), .d (.int .u8 0), .d (.int .u8 0), .d (.int .u8 0), .d (.int .u8 0), .d (.int .u8 0), .d (.int .u8 0), .d (.int .u8 0), .d (.int .u8 0), .d (.int .u8 0), .d (.int .u8 0), .d (.int .u8 0), .d (.int .u8 0), .d (.int .u8 0), .d (.int .u8 0), .d (.int .u8 0), .d (.int .u8 0), .d (.int .u8 0), .d (.int .u8 0), .d (.int .u8 0), .d (.int .u8 0), .d (.int .u8 0), .d (.int .u8 0), .d (.int .u8 0), .d (.int .u8 0), .d (.int .u8 0), .d (.int .u8 0), .d (.int .u8 0)] := by kernel_rfl
@[go_sem] theorem T189_zero : waf T189 = some (.d (.agg [(.int .u8 0), (.int .u8 0), (.int .u8 0), (.int .u8 0), (.int .u8 0), (.int .u8 0), (.int .u8 0), (.int .u8 0), (.int .u8 0), (.int .u8 0), (.int .u8 0), (.int .u8 0), (.int .u8 0), (.int .u8 0), (.int .u8 0), (.int .u8 0), (.int .u8 0), (.int .u8 0), (.int .u8 0), (.int .u8 0), (.int .u8 0), (.int .u8 0), (.int .u8 0), (.int .u8 0), (.int .u8 0), (.int .u8 0), (.int .u8 0), (.int .u8 0), (.int .u8 0), (.int .u8 0), (.int .u8 0), (.int .u8 0), (.int .u8 0), (.int .u8 0), (.int .u8 0), (.int .u8 0), (.int .u8 0), (.int .u8 0), (.int .u8 0), (.int .u8 0), (.int .u8 0), (.int .u8 0), (.int .u8 0), (.int .u8 0), (.int .u8 0), (.int .u8 0), (.int .u8 0), (.int .u8 0), (.int .u8 0), (.int .u8 0), (.int .u8 0), (.int .u8 0), (.int .u8 0), (.int .u8 0), (.int .u8 0), (.int .u8 0), (.int .u8 0), (.int .u8 0), (.int .u8 0), (.int .u8 0), (.int .u8 0), (.int .u8 0), (.int .u8 0), (.int .u8 0), (.int .u8 0)])) := by kernel_rfl
@[go_sem] theorem T189_ok : wae T189 = true := by kernel_rfl
noncomputable def T190 : Ty := (wad Tryd.prog 190).getD ⟨.invalid, 0, 0, none⟩
@[go_sem] theorem ty190 : wad Tryd.prog 190 = some T190 := by kernel_rfl
@[go_sem] theorem T190_desc : T190.desc = .array 32 5 := by kernel_rfl
@[go_sem] theorem es190 : wbE Tryd.prog 190 = none := by kernel_rfl
@[go_sem] theorem ars190 : weJ Tryd.prog 190 = some (32, 1) := by kernel_rfl
@[go_sem] theorem T190_size : T190.size = 32 := by kernel_rfl
@[go_sem] theorem T190_bytes : T190.bytes = 32 := by kernel_rfl
@[go_sem] theorem T190_cells : zeroCells T190.zero = some [.d (.int .u8 0), .d (.int .u8 0), .d (.int .u8 0), .d (.int .u8 0), .d (.int .u8 0), .d (.int .u8 0), .d (.int .u8 0), .d (.int .u8 0), .d (.int .u8 0), .d (.int .u8 0), .d (.int .u8 0), .d (.int .u8 0), .d (.int .u8 0), .d (.int .u8 0), .d (.int .u8 0), .d (.int .u8 0), .d (.int .u8 0), .d (.int .u8 0), .d (.int .u8 0), .d (.int .u8 0), .d (.int .u8 0), .d (.int .u8 0), .d (.int .u8 0), .d (.int .u8 0), .d (.int .u8 0), .d (.int .u8 0), .d (.int .u8 0), .d (.int .u8 0), .d (.int .u8 0), .d (.int .u8 0), .d (.int .u8 0), .d (.int .u8 0)] := by kernel_rfl
@[go_sem] theorem T190_zero : waf T190 = some (.d (.agg [(.int .u8 0), (.int .u8 0), (.int .u8 0), (.int .u8 0), (.int .u8 0), (.int .u8 0), (.int .u8 0), (.int .u8 0), (.int .u8 0), (.int .u8 0), (.int .u8 0), (.int .u8 0), (.int .u8 0), (.int .u8 0), (.int .u8 0), (.int .u8 0), (.int .u8 0), (.int .u8 0), (.int .u8 0), (.int .u8 0), (.int .u8 0), (.int .u8 0), (.int .u8 0), (.int .u8 0), (.int .u8 0), (.int .u8 0), (.int .u8 0), (.int .u8 0), (.int .u8 0), (.int .u8 0), (.int .u8 0), (.int .u8 0)])) := by kernel_rfl
@[go_sem] theorem T190_ok : wae T190 = true := by kernel_rfl
noncomputable def T191 : Ty := (wad Tryd.prog 191).getD ⟨.invalid, 0, 0, none⟩
@[go_sem] theorem ty191 : wad Tryd.prog 191 = some T191 := by kernel_rfl
@[go_sem] theorem T191_desc : T191.desc = .array 64 5 := by kernel_rfl
@[go_sem] theorem es191 : wbE Tryd.prog 191 = none := by kernel_rfl
@[go_sem] theorem ars191 : weJ Tryd.prog 191 = some (64, 1) := by kernel_rfl
@[go_sem] theorem T191_size : T191.size = 64 := by kernel_rfl
@[go_sem] theorem T191_bytes : T191.bytes = 64 := by kernel_rfl
@[go_sem] theorem T191_cells : zeroCells T191.zero = some [.d (.int .u8 0), .d (.int .u8 0), .d (.int .u8 0), .d (.int .u8 0), .d (.int .u8 0), .d (.int .u8 0), .d (.int .u8 0), .d (.int .u8 0), .d (.int .u8 0), .d (.int .u8 0), .d (.int .u8 0), .d (.int .u8 0), .d (.int .u8 0), .d (.int .u8 0), .d (.int .u8 0), .d (.int .u8 0), .d (.int .u8 0), .d (.int .u8 0), .d (.int .u8 0), .d (.int .u8 0), .d (.int .u8 0), .d (.int .u8 0), .d (.int .u8 0), .d (.int .u8 0), .d (.int .u8 0), .d (.int .u8 0), .d (.int .u8 0), .d (.int .u8 0), .d (.int .u8 0), .d (.int .u8 0), .d (.int .u8 0), .d (.int .u8 0), .d (.int .u8 0), .d (.int .u8 0), .d (.int .u8 0), .d (.int .u8 0), .d (.int .u8 0), .d (.int .u8 0), .d (.int .u8 0), .d (.int .u8 0), .d (.int .u8 0), .d (.int .u8 0), .d (.int .u8 0), .d (.int .u8 0), .d (.int .u8 0), .d (.int .u8 0), .d (.int .u8 0), .d (.int .u8 0), .d (.int .u8 0), .d (.int .u8 0), .d (.int .u8 0), .d (.int .u8 0), .d (.int .u8 0), .d (.int .u8 0), .d (.int .u8 0), .d (.int .u8 0), .d (.int .u8 0), .d (.int .u8 0), .d (.int .u8 0), .d (.int .u8 0), .d (.int .u8 0), .d (.int .u8 0), .d (.int .u8 0), .d (.int .u8 0)] := by kernel_rfl
@[go_sem] theorem T191_zero : waf T191 = some (.d (.agg [(.int .u8 0), (.int .u8 0), (.int .u8 0), (.int .u8 0), (.int .u8 0), (.int .u8 0), (.int .u8 0), (.int .u8 0), (.int .u8 0), (.int .u8 0), (.int .u8 0), (.int .u8 0), (.int .u8 0), (.int .u8 0), (.int .u8 0), (.int .u8 0), (.int .u8 0), (.int .u8 0), (.int .u8 0), (.int .u8 0), (.int .u8 0), (.int .u8 0), (.int .u8 0), (.int .u8 0), (.int .u8 0), (.int .u8 0), (.int .u8 0), (.int .u8 0), (.int .u8 0), (.int .u8 0), (.int .u8 0), (.int .u8 0), (.int .u8 0), (.int .u8 0), (.int .u8 0), (.int .u8 0), (.int .u8 0), (.int .u8 0), (.int .u8 0), (.int .u8 0), (.int .u8 0), (.int .u8 0), (.int .u8 0), (.int .u8 0), (.int .u8 0), (.int .u8 0), (.int .u8 0), (.int .u8 0), (.int .u8 0), (.int .u8 0), (.int .u8 0), (.int .u8 0), (.int .u8 0), (.int .u8 0), (.int .u8 0), (.int .u8 0), (.int .u8 0), (.int .u8 0), (.int .u8 0), (.int .u8 0), (.int .u8 0), (.int .u8 0), (.int .u8 0), (.int .u8 0)])) := by kernel_rfl
@[go_sem] theorem T191_ok : wae T191 = true := by kernel_rfl
@[go_sem] theorem es194 : wbE Tryd.prog 194 = none := by kernel_rfl
@[go_sem] theorem ars194 : weJ Tryd.prog 194 = some (0, 1) := by kernel_rfl
@[go_sem] theorem rg0 : List.range 0 = [] := by decide
@[go_sem] theorem rg3 : List.range 3 = [0, 1, 2] := by decide
@[go_sem] theorem se22 : wbA Tryd.prog 22 = some (56, T56) := by kernel_rfl
@[go_sem] theorem se26 : wbA Tryd.prog 26 = some (3, T3) := by kernel_rfl
@[go_sem] theorem se32 : wbA Tryd.prog 32 = some (37, T37) := by kernel_rfl
@[go_sem] theorem se52 : wbA Tryd.prog 52 = some (5, T5) := by kernel_rfl
@[go_sem] theorem se54 : wbA Tryd.prog 54 = some (61, T61) := by kernel_rfl
@[go_sem] theorem se76 : wbA Tryd.prog 76 = some (120, T120) := by kernel_rfl
@[go_sem] theorem se79 : wbA Tryd.prog 79 = some (26, T26) := by kernel_rfl
@[go_sem] theorem se113 : wbA Tryd.prog 113 = some (22, T22) := by kernel_rfl
end Go.Pv.Tryd

namespace Go.Pv.Tryd
open Go.Proofs Go.Pv
theorem mo : Tryd.prog.follows .mixedOrders = true := by kernel_rfl
def wpA : Nat := 0
def G : List (Nat × PD) := [(wpA, .agg (Lib.pow10Tab.map (PD.int .u64)))]
attribute [go_sem] reduceCtorEq Nat.reduceAdd Nat.reduceMul Nat.reduceLT Nat.reduceLeDiff Nat.reduceEqDiff Nat.reduceBEq Int.reduceToNat
attribute [go_sem] Tryd.results2 Tryd.results3 Tryd.results4 Tryd.results5 Tryd.results6 Tryd.results7 Tryd.results8 Tryd.results9 Tryd.results10 Tryd.results11 Tryd.results12 Tryd.results13 Tryd.results14 Tryd.results15 Tryd.results16 Tryd.results17 Tryd.results18 Tryd.results19 Tryd.results20 Tryd.results21 Tryd.results22 Tryd.results23 Tryd.results24 Tryd.results25 Tryd.results26 Tryd.results27 Tryd.results28 Tryd.results29 Tryd.results30 Tryd.results31 Tryd.results32 Tryd.results33 Tryd.results34 Tryd.results35 Tryd.results36 Tryd.results37 Tryd.results38 Tryd.results39 Tryd.results40 Tryd.results41 Tryd.results42 Tryd.results43 Tryd.results44 Tryd.results45 Tryd.results46 Tryd.results47 Tryd.results48 Tryd.results49 Tryd.results50 Tryd.results51 Tryd.results52 Tryd.results53 Tryd.results54 Tryd.results55 Tryd.results56 Tryd.results57 Tryd.results58 Tryd.results59 Tryd.results60 Tryd.results61 Tryd.results62 Tryd.results63 Tryd.results64 Tryd.results65 Tryd.results66 Tryd.results67 Tryd.results68 Tryd.results69 Tryd.results70 Tryd.results71 Tryd.results72 Tryd.results73 Tryd.results74 Tryd.results75 Tryd.results76 Tryd.results77 Tryd.results78 Tryd.results79 Tryd.results80 Tryd.results81 Tryd.results82 Tryd.results83 Tryd.results84 Tryd.results85 Tryd.results86 Tryd.results87 Tryd.results88 Tryd.results89 Tryd.results90 Tryd.results91 Tryd.results92 Tryd.results93 Tryd.results94 Tryd.results95 Tryd.results96 Tryd.results97 Tryd.results98 Tryd.results99 Tryd.results100 Tryd.results101 Tryd.results102 Tryd.results103 Tryd.results104 Tryd.results105 Tryd.results106 Tryd.results107 Tryd.results108 Tryd.results109 Tryd.results110 Tryd.results111 Tryd.results112 Tryd.results113 Tryd.results114 Tryd.results115 Tryd.results116 Tryd.results117 Tryd.results118 Tryd.results119 Tryd.results120 Tryd.results121 Tryd.results122 Tryd.results123 Tryd.results124 Tryd.results125 Tryd.results126 Tryd.results127 Tryd.results128 Tryd.results130 Tryd.results131 Tryd.results132 Tryd.results133 Tryd.results134 Tryd.results135 Tryd.results136 Tryd.results137 Tryd.results138 Tryd.results139 Tryd.results140 Tryd.results141 Tryd.results142 Tryd.results143 Tryd.results144 Tryd.results145 Tryd.results146 Tryd.results147 Tryd.results170
theorem wsS : Tryd.prog.underlying 135 = some (.map 121 26) := by kernel_rfl
theorem wiW : KeyEnc Tryd.prog 121 Arr3_Int.pd (fun a : Arr3_Int => Value.agg (([a.c0, a.c1, a.c2].map (Value.int .i64)).toArray)) := by
 obtain ⟨i, hi, hs⟩ : ∃ i, Tryd.prog.info? 3 = some i ∧ i.size = 1 := by
  have h : (Tryd.prog.info? 3).map (·.size) = some 1 := by kernel_rfl
  simpa [Option.map_eq_some_iff] using h
 exact KeyEnc.ints (n := 3) (by kernel_rfl) hi hs (by kernel_rfl) (fun a : Arr3_Int => [a.c0, a.c1, a.c2]) (fun _ => rfl) (by rintro ⟨⟩ ⟨⟩ h; simp at h; simp [h])
theorem wtK : T26.zero = some (.slice none 0 0) := by kernel_rfl
theorem wo6 : Tryd.prog.underlying 117 = some (.map 121 4) := by kernel_rfl
theorem MZ4 : T4.zero = some (.bool false) := by kernel_rfl
theorem wts : Tryd.prog.underlying 89 = some (.map 121 3) := by kernel_rfl
theorem MZ3 : T3.zero = some (.int .i64 0) := by kernel_rfl
theorem wtt : Tryd.prog.underlying 90 = some (.map 9 3) := by kernel_rfl
theorem KE9 : KeyEnc Tryd.prog 9 PD.str Value.string := KeyEnc.str (by kernel_rfl)
theorem wsT : Tryd.prog.underlying 133 = some (.map 3 3) := by kernel_rfl
theorem KE3 : KeyEnc Tryd.prog 3 (PD.int .i64) (Value.int .i64) := KeyEnc.int (by kernel_rfl)
end Go.Pv.Tryd

namespace Go.Pv
theorem wcq {α : Type} (l : List α) {i : Nat} (h : l.length ≤ i) : l.drop i = [] := List.drop_eq_nil_of_le h
theorem wby {S X : Type} (f : S → Option (S ⊕ X)) (s : S) : iter f s = (f s).bind fun o => match o with
  | .inl s' => iter f s'
  | .inr x => some x := by
 cases h : f s with
 | none =>
  simp only [Option.bind_none]
  cases hi : iter f s with
  | none => rfl
  | some x =>
   obtain ⟨n, hn⟩ := wiS hi
   cases n with
   | zero => cases hn
   | succ n => rw [we2, h] at hn; cases hn
 | some o =>
  simp only [Option.bind_some]
  cases o with
  | inr x => exact wbJ h
  | inl s' =>
   show iter f s = iter f s'
   cases hi : iter f s' with
   | some x => exact wbI h hi
   | none =>
    cases hi2 : iter f s with
    | none => rfl
    | some x =>
     obtain ⟨n, hn⟩ := wiS hi2
     cases n with
     | zero => cases hn
     | succ n =>
      rw [we2, h] at hn
      have := wlR (f := f) (s := s') (n := n) hn
      rw [hi] at this; cases this
theorem wfG {α : Type} {s : List α} {p : α → Option Bool} {q : α → Bool} {f : Int → Option (Int ⊕ (Unit ⊕ Int))} (hs : s.length ≤ 9223372036854775807)
  (hf : ∀ v, f v = cond (decide (v < (s.length : Int))) ((idx s v).bind fun e => (p e).bind fun r => cond r (some (.inr (.inr v))) (some (.inl (IntKind.i64.wrap (v + 1))))) (some (.inr (.inl ()))))
  (hq : ∀ x ∈ s, p x = some (q x)) : ∀ (k i : Nat), k = s.length - i → iter f (i : Int) = some (match (s.drop i).findIdx? q with | some j => .inr ((i + j : Nat) : Int) | none => .inl ())
 | 0, i, hk => by
  have h1 : decide ((i : Int) < (s.length : Int)) = false := by simp; omega
  rw [wby, hf, h1, List.drop_eq_nil_of_le (by omega)]; rfl
 | k + 1, i, hk => by
  have hi : i < s.length := by omega
  have h1 : decide ((i : Int) < (s.length : Int)) = true := by simp; omega
  have h2 : idx s (i : Int) = some s[i] := by
   unfold idx
   simp [hi]
  rw [wby, hf, h1, h2, List.drop_eq_getElem_cons hi, List.findIdx?_cons]
  simp only [cond_true, Option.bind_some, hq _ (List.getElem_mem hi)]
  cases hb : q s[i] with
  | true => simp
  | false =>
   simp only [cond_false, Option.bind_some]
   rw [wap (by omega)]
   have := wfG hs hf hq k (i + 1) (by omega)
   rw [show ((i : Int) + 1) = ((i + 1 : Nat) : Int) by omega, this]
   cases (s.drop (i + 1)).findIdx? q with
   | none => rfl
   | some j => simp; omega
end Go.Pv

namespace Go.Pv
theorem whu {α : Type} (l : List α) (q : α → Bool) : decide (0 ≤ (match l.findIdx? q with | some j => (j : Int) | none => -1)) = l.any q := by
 cases h : l.findIdx? q with
 | none =>
  rw [List.findIdx?_eq_none_iff] at h
  have : l.any q = false := by rw [List.any_eq_false]; intro x hx; simp [h x hx]
  rw [this]; rfl
 | some j =>
  have h2 : l.any q = true := by
   cases ha : l.any q with
   | true => rfl
   | false =>
    rw [List.any_eq_false] at ha
    have : l.findIdx? q = none := List.findIdx?_eq_none_iff.2 fun x hx => by simpa using ha x hx
    rw [h] at this; cases this
  rw [h2]; simp
def wfn (b : Band) : Bool := ((decide (b.Lo < 0)) || (decide (b.Hi ≤ b.Lo))) || (decide (1000 < b.Hi))
def wbo (k : Int) (r : Rule) : Bool := (((decide ((r.Bands.length : Int) = k)) && (decide (0 ≤ r.Code))) && (decide (r.Code ≤ 99))) && !(r.Bands.any wfn)
theorem wrN (s : List Band) (hs : s.length ≤ 9223372036854775807) : wa9 s = some (match s.findIdx? wfn with | some j => (j : Int) | none => -1) := by
 unfold wa9
 have h := wfG (s := s) (p := wdO) (q := wfn) (f := wbB s) hs (fun v => rfl) (fun x _ => rfl) (s.length) 0 (by omega)
 rw [show ((0 : Nat) : Int) = 0 from rfl] at h
 rw [h, List.drop_zero]
 cases s.findIdx? wfn <;> simp
theorem ws3 (s : List Band) (hs : s.length ≤ 9223372036854775807) : waS s = some (s.any wfn) := by
 unfold waS
 rw [wrN s hs, Option.bind_some, whu]
theorem ws4 {k : Int} (hk : k ≤ 4) (r : Rule) : wdW k r = some (wbo k r) := by
 unfold wdW wbo
 cases hc : (((decide ((r.Bands.length : Int) = k)) && (decide (0 ≤ r.Code))) && (decide (r.Code ≤ 99))) with
 | false => rfl
 | true =>
  have hl : (r.Bands.length : Int) = k := by simp at hc; exact hc.1.1
  simp only [cond_true, Bool.true_and]
  rw [ws3 _ (by omega)]; rfl
theorem woX {k : Int} (hk : k ≤ 4) (s : List Rule) (hs : s.length ≤ 9223372036854775807) : wbn s k = some (match s.findIdx? (fun r => !wbo k r) with | some j => (j : Int) | none => -1) := by
 unfold wbn
 have h := wfG (s := s) (p := fun e => wbZ e k) (q := fun r => !wbo k r) (f := wbO s k) hs (fun v => rfl) (fun x _ => by unfold wbZ; rw [ws4 hk]; rfl) (s.length) 0 (by omega)
 rw [show ((0 : Nat) : Int) = 0 from rfl] at h
 rw [h, List.drop_zero]
 cases s.findIdx? (fun r => !wbo k r) <;> simp
theorem wqq {k : Int} (hk : k ≤ 4) (s : List Rule) (hs : s.length ≤ 9223372036854775807) : waO s k = some (s.any fun r => !wbo k r) := by
 unfold waO
 rw [woX hk s hs, Option.bind_some, whu]
end Go.Pv

namespace Go.Pv
def wlp (k : Int) (t : List Rule) : Int := cond (decide (24 < (t.length : Int))) 3 (cond (t.any fun r => !wbo k r) 2 0)
def wix (k : Int) : List (List Rule) → Int
 | [] => 0
 | t :: l => cond (wlp k t == 0) (wix k l) (wlp k t)
def chk (k : Int) (ts : List (List Rule)) : Int := if 1 ≤ k ∧ k ≤ 4 then wix k ts else 2
theorem wlq {k : Int} (hk : k ≤ 4) (ts : List (List Rule)) (hs : ts.length ≤ 9223372036854775807) : ∀ (n i : Nat), n = ts.length - i → iter (wbK k ts) (i : Int) = some (cond (wix k (ts.drop i) == 0) (.inl ()) (.inr (wix k (ts.drop i))))
 | 0, i, hn => by
  have h1 : decide ((i : Int) < (ts.length : Int)) = false := by simp; omega
  rw [wby, List.drop_eq_nil_of_le (by omega)]
  unfold wbK
  rw [h1]; rfl
 | n + 1, i, hn => by
  have hi : i < ts.length := by omega
  have h1 : decide ((i : Int) < (ts.length : Int)) = true := by simp; omega
  have h2 : idx ts (i : Int) = some ts[i] := by unfold idx; simp [hi]
  rw [wby, List.drop_eq_getElem_cons hi]
  have ih := wlq hk ts hs n (i + 1) (by omega)
  generalize hm : wbK k ts = f at ih ⊢
  have hf : f (i : Int) = cond (decide (24 < (ts[i].length : Int))) (some (.inr (.inr 3))) ((waO ts[i] k).bind fun r2 => cond r2 (some (.inr (.inr 2))) (some (.inl (IntKind.i64.wrap ((i : Int) + 1))))) := by
   rw [← hm]; unfold wbK; rw [h1, cond_true, h2]; rfl
  rw [hf]
  simp only [wix, wlp]
  cases hb : decide (24 < (ts[i].length : Int)) with
  | true => rfl
  | false =>
   have hb : ¬ 24 < (ts[i].length : Int) := by simpa using hb
   simp only [cond_false]
   rw [wqq hk _ (by omega), Option.bind_some]
   cases ha : ts[i].any fun r => !wbo k r with
   | true => rfl
   | false =>
    simp only [cond_false, Option.bind_some]
    rw [wap (by omega), show ((i : Int) + 1) = ((i + 1 : Nat) : Int) by omega]
    exact ih
theorem wfQ (k : Int) (ts : List (List Rule)) (hs : ts.length ≤ 9223372036854775807) : wbr k ts = some (chk k ts) := by
  unfold wbr wcS chk
  simp only [Option.bind_some]
  by_cases hk : 1 ≤ k ∧ k ≤ 4
  · have h1 : (!(decide (1 ≤ k) && decide (k ≤ 4))) = false := by simp; exact hk
    rw [h1, if_pos hk, cond_false]
    have h := wlq hk.2 ts hs ts.length 0 (by omega)
    rw [show ((0 : Nat) : Int) = 0 from rfl, List.drop_zero] at h
    rw [h]
    cases h0 : wix k ts == 0 with
    | true => have : wix k ts = 0 := by simpa using h0
              rw [this]; rfl
    | false => rfl
  · have h1 : (!(decide (1 ≤ k) && decide (k ≤ 4))) = true := by
      cases h : decide (1 ≤ k) && decide (k ≤ 4) with
      | false => rfl
      | true => exfalso; simp at h; exact hk h
    rw [h1, if_neg hk, cond_true]
theorem wnn {k : Int} (e : Rule) (hl : (e.Bands.length : Int) = k) (hk : k ≤ 4) : ∀ (n i : Nat), n = e.Bands.length - i → iter (wcd k e) (i : Int) = some (cond ((e.Bands.drop i).any wfn) (.inr 2) (.inl ()))
 | 0, i, hn => by
  have h1 : decide ((i : Int) < k) = false := by simp; omega
  rw [wby, List.drop_eq_nil_of_le (by omega)]
  unfold wcd
  rw [h1]; rfl
 | n + 1, i, hn => by
  have hi : i < e.Bands.length := by omega
  have h1 : decide ((i : Int) < k) = true := by simp; omega
  have h2 : idx e.Bands (i : Int) = some e.Bands[i] := by unfold idx; simp [hi]
  have ih := wnn e hl hk n (i + 1) (by omega)
  rw [wby, List.drop_eq_getElem_cons hi]
  generalize hm : wcd k e = f at ih ⊢
  have hf : f (i : Int) = cond (decide (e.Bands[i].Lo < 0)) (some (.inr (.inr 2))) (cond (decide (e.Bands[i].Hi ≤ e.Bands[i].Lo)) (some (.inr (.inr 2))) (cond (decide (1000 < e.Bands[i].Hi)) (some (.inr (.inr 2))) (some (.inl (IntKind.i64.wrap ((i : Int) + 1)))))) := by
   rw [← hm]; unfold wcd; rw [h1, cond_true, h2]; rfl
  rw [hf]
  simp only [List.any_cons, wfn]
  cases ha : decide (e.Bands[i].Lo < 0) with
  | true => rfl
  | false =>
   cases hb : decide (e.Bands[i].Hi ≤ e.Bands[i].Lo) with
   | true => rfl
   | false =>
    cases hc : decide (1000 < e.Bands[i].Hi) with
    | true => rfl
    | false =>
     simp only [cond_false, Option.bind_some, Bool.false_or]
     rw [wap (by omega), show ((i : Int) + 1) = ((i + 1 : Nat) : Int) by omega]
     exact ih
theorem wno {k : Int} (hk : k ≤ 4) (t : List Rule) (ht : t.length ≤ 24) : ∀ (n i : Nat), n = t.length - i → iter (wce k t) (i : Int) = some (cond ((t.drop i).any fun r => !wbo k r) (.inr 2) (.inl ()))
 | 0, i, hn => by
  have h1 : decide ((i : Int) < (t.length : Int)) = false := by simp; omega
  rw [wby, List.drop_eq_nil_of_le (by omega)]
  unfold wce
  rw [h1]; rfl
 | n + 1, i, hn => by
  have hi : i < t.length := by omega
  have h1 : decide ((i : Int) < (t.length : Int)) = true := by simp; omega
  have h2 : idx t (i : Int) = some t[i] := by unfold idx; simp [hi]
  have ih := wno hk t ht n (i + 1) (by omega)
  rw [wby, List.drop_eq_getElem_cons hi]
  generalize hm : wce k t = f at ih ⊢
  have hf : f (i : Int) = cond (wbo k t[i]) (some (.inl (IntKind.i64.wrap ((i : Int) + 1)))) (some (.inr (.inr 2))) := by
   rw [← hm]; unfold wce; rw [h1, cond_true, h2, Option.bind_some]
   by_cases hc : ((t[i].Bands.length : Int) = k ∧ 0 ≤ t[i].Code) ∧ t[i].Code ≤ 99
   ·have e1 : (((decide (¬(t[i].Bands.length : Int) = k)) || (decide (t[i].Code < 0))) || (decide (99 < t[i].Code))) = false := by
     simp only [Bool.or_eq_false_iff, decide_eq_false_iff_not]; exact ⟨⟨fun h => h hc.1.1, by omega⟩, by omega⟩
    have e2 : wbo k t[i] = !(t[i].Bands.any wfn) := by simp [wbo, hc.1.1, hc.1.2, hc.2]
    have hb := wnn t[i] hc.1.1 hk t[i].Bands.length 0 (by omega)
    rw [show ((0 : Nat) : Int) = 0 from rfl, List.drop_zero] at hb
    rw [e1, cond_false, hb, e2]
    cases t[i].Bands.any wfn <;> rfl
   ·have e1 : (((decide (¬(t[i].Bands.length : Int) = k)) || (decide (t[i].Code < 0))) || (decide (99 < t[i].Code))) = true := by
     cases he : (((decide (¬(t[i].Bands.length : Int) = k)) || (decide (t[i].Code < 0))) || (decide (99 < t[i].Code))) with
     | true => rfl
     | false =>
      exfalso; simp only [Bool.or_eq_false_iff, decide_eq_false_iff_not, Decidable.not_not] at he
      exact hc ⟨⟨he.1.1, by omega⟩, by omega⟩
    have e2 : wbo k t[i] = false := by
     cases he : wbo k t[i] with
     | false => rfl
     | true => exfalso; simp only [wbo, Bool.and_eq_true, decide_eq_true_eq] at he; exact hc he.1
    rw [e1, e2]; rfl
  rw [hf]
  simp only [List.any_cons]
  cases hc : wbo k t[i] with
  | false => rfl
  | true =>
   simp only [cond_true, Option.bind_some, Bool.not_true, Bool.false_or]
   rw [wap (by omega), show ((i : Int) + 1) = ((i + 1 : Nat) : Int) by omega]
   exact ih
theorem wqD (k : Int) (t : List Rule) : wdF k t = some (chk k [t]) := by
 unfold wdF chk
 by_cases hk : 1 ≤ k ∧ k ≤ 4
 ·have h1 : ((decide (k < 1)) || (decide (4 < k))) = false := by simp; omega
  rw [h1, cond_false, if_pos hk]
  simp only [wix, wlp]
  cases ht : decide (24 < (t.length : Int)) with
  | true => rfl
  | false =>
   have ht : ¬ 24 < (t.length : Int) := by simpa using ht
   have hb := wno hk.2 t (by omega) t.length 0 (by omega)
   rw [show ((0 : Nat) : Int) = 0 from rfl, List.drop_zero] at hb
   rw [cond_false, hb]
   cases t.any fun r => !wbo k r <;> rfl
 ·have h1 : ((decide (k < 1)) || (decide (4 < k))) = true := by
   simp only [Bool.or_eq_true, decide_eq_true_eq]; omega
  rw [h1, cond_true, if_neg hk]
end Go.Pv

namespace Go.Pv
def whc (n : Int) : Bool := (decide (n < 0)) || (decide (999 < n))
def weN (k : Int) (l : List Int) : Bool := decide ((l.length : Int) = k) && !(l.any whc)
theorem woY (s : List Int) (hs : s.length ≤ 9223372036854775807) : wcb s = some (match s.findIdx? whc with | some j => (j : Int) | none => -1) := by
 unfold wcb
 have h := wfG (s := s) (p := we9) (q := whc) (f := wdr s) hs (fun v => rfl) (fun x _ => rfl) (s.length) 0 (by omega)
 rw [show ((0 : Nat) : Int) = 0 from rfl] at h
 rw [h, List.drop_zero]
 cases s.findIdx? whc <;> simp
theorem wpB (k : Int) (l : List Int) (hl : l.length ≤ 9223372036854775807) : wd9 k l = some (weN k l) := by
 unfold wd9 weN wcx
 rw [woY l hl, Option.bind_some]
 cases decide ((l.length : Int) = k) with
 | false => rfl
 | true => exact congrArg (fun b => some (!b)) (whu l whc)
def wnp (b : Band) (x : Int) : Bool := !(decide (x < b.Lo)) && !(decide (b.Hi ≤ x))
def wej : List Band → List Int → Bool
 | b :: bs, x :: l => wnp b x && wej bs l
 | _, _ => true
theorem wlr (r : Rule) (l : List Int) (hl : r.Bands.length = l.length) (hb : l.length ≤ 9223372036854775807) : ∀ (n i : Nat), n = l.length - i → iter (wbY r l) (i : Int) = some (cond (wej (r.Bands.drop i) (l.drop i)) (.inl ()) (.inr false))
 | 0, i, hn => by
  have h1 : decide ((i : Int) < (r.Bands.length : Int)) = false := by simp; omega
  rw [wby, wcq (l) (by omega)]
  unfold wbY
  rw [h1]
  cases r.Bands.drop i <;> rfl
 | n + 1, i, hn => by
  have hi : i < l.length := by omega
  have hi2 : i < r.Bands.length := by omega
  have h1 : decide ((i : Int) < (r.Bands.length : Int)) = true := by simp; omega
  have h2 : idx l (i : Int) = some l[i] := by unfold idx; simp [hi]
  have h3 : idx r.Bands (i : Int) = some r.Bands[i] := by unfold idx; simp [hi2]
  have ih := wlr r l hl hb n (i + 1) (by omega)
  rw [wby, List.drop_eq_getElem_cons hi, List.drop_eq_getElem_cons hi2]
  generalize hm : wbY r l = f at ih ⊢
  have hf : f (i : Int) = cond (decide (l[i] < r.Bands[i].Lo)) (some (.inr (.inr false))) (cond (decide (r.Bands[i].Hi ≤ l[i])) (some (.inr (.inr false))) (some (.inl (IntKind.i64.wrap ((i : Int) + 1))))) := by
   rw [← hm]; unfold wbY; rw [h1, cond_true, h2, h3]; rfl
  rw [hf]
  simp only [wej, wnp]
  cases ha : decide (l[i] < r.Bands[i].Lo) with
  | true => rfl
  | false =>
   cases hc : decide (r.Bands[i].Hi ≤ l[i]) with
   | true => rfl
   | false =>
    simp only [cond_false, Option.bind_some, Bool.not_false, Bool.true_and]
    rw [wap (by omega), show ((i : Int) + 1) = ((i + 1 : Nat) : Int) by omega]
    exact ih
theorem wqr (r : Rule) (l : List Int) (hl : r.Bands.length = l.length) (hb : l.length ≤ 9223372036854775807) : wcy r l = some (wej r.Bands l) := by
 unfold wcy
 have h := wlr r l hl hb l.length 0 (by omega)
 rw [show ((0 : Nat) : Int) = 0 from rfl, List.drop_zero, List.drop_zero] at h
 rw [h]
 cases wej r.Bands l <;> rfl
def wcG (t : List Rule) (l : List Int) : Int := match t.findIdx? (fun r => wej r.Bands l) with | some j => (j : Int) | none => -1
theorem wrf (t : List Rule) (l : List Int) (ht : t.length ≤ 9223372036854775807) (hb : l.length ≤ 9223372036854775807) (h : ∀ r ∈ t, r.Bands.length = l.length) : wee t l = some (wcG t l) := by
 unfold wee wcJ wcG
 have h := wfG (s := t) (p := fun r => wcy r l) (q := fun r => wej r.Bands l) (f := wdg t l) ht (fun v => rfl) (fun r hr => wqr r l (h r hr) hb) t.length 0 (by omega)
 rw [show ((0 : Nat) : Int) = 0 from rfl] at h
 rw [h, List.drop_zero]
 cases t.findIdx? (fun r => wej r.Bands l) <;> simp
end Go.Pv

namespace Go.Pv
theorem wc6 {k : Int} {t : List Rule} (h : chk k [t] = 0) : 1 ≤ k ∧ k ≤ 4 ∧ t.length ≤ 24 ∧ ∀ r ∈ t, wbo k r = true := by
 unfold chk at h
 by_cases hk : 1 ≤ k ∧ k ≤ 4
 ·rw [if_pos hk] at h
  simp only [wix, wlp] at h
  cases hb : decide (24 < (t.length : Int)) with
  | true => rw [hb] at h; simp at h
  | false =>
   rw [hb] at h
   cases ha : t.any fun r => !wbo k r with
   | true => rw [ha] at h; simp at h
   | false =>
    rw [List.any_eq_false] at ha
    refine ⟨hk.1, hk.2, by simp at hb; omega, fun r hr => ?_⟩
    have := ha r hr
    simpa using this
 ·rw [if_neg hk] at h; cases h
theorem wkh {k : Int} {r : Rule} (h : wbo k r = true) : (r.Bands.length : Int) = k := by
 simp only [wbo, Bool.and_eq_true, decide_eq_true_eq] at h; exact h.1.1.1
theorem wqs {t : List Rule} {l : List Int} (h : ¬ wcG t l < 0) : ∃ (i : Nat) (hi : i < t.length), wcG t l = i ∧ wej t[i].Bands l = true ∧ ∀ j (hj : j < i), wej (t[j]'(by omega)).Bands l = false := by
 unfold wcG at h ⊢
 cases hf : t.findIdx? (fun r => wej r.Bands l) with
 | none => rw [hf] at h; simp at h
 | some i =>
  obtain ⟨hi, h1, h2⟩ := List.findIdx?_eq_some_iff_getElem.1 hf
  exact ⟨i, hi, rfl, h1, fun j hj => by simpa using h2 j hj⟩
def wiX (k : Int) (t : List Rule) (l : List Int) : Int × Int × Int :=
 if chk k [t] = 0 then
  (cond (weN k l) (if wcG t l < 0 then (0, 0, 6) else ((t.getD (wcG t l).toNat default).Code, wcG t l, 0)) (0, 0, 2))
 else (0, 0, chk k [t])
theorem wst {t : List Rule} {l : List Int} : (cond (decide (wcG t l < 0)) (some (0, 0, 6)) ((idx t (wcG t l)).bind fun e1 => some (e1.Code, wcG t l, 0)) : Option (Int × Int × Int)) = some (if wcG t l < 0 then (0, 0, 6) else ((t.getD (wcG t l).toNat default).Code, wcG t l, 0)) := by
 by_cases h : wcG t l < 0
 ·rw [decide_eq_true h, if_pos h]; rfl
 ·obtain ⟨i, hi, h1, _⟩ := wqs h
  rw [decide_eq_false h, if_neg h, h1]
  have h2 : idx t (i : Int) = some t[i] := by unfold idx; simp [hi]
  rw [h2]
  simp [hi]
theorem ws5 (k : Int) (t : List Rule) (l : List Int) (hl : l.length ≤ 9223372036854775807) : weq k t l = some (wiX k t l) := by
 unfold weq wiX
 rw [wfQ k [t] (by simp), Option.bind_some]
 by_cases h : chk k [t] = 0
 ·obtain ⟨h1, h2, h3, h4⟩ := wc6 h
  rw [if_pos h, decide_eq_false (by simp [h]), cond_false, wpB k l hl, Option.bind_some]
  cases ht : weN k l with
  | false => rfl
  | true =>
   have hk : (l.length : Int) = k := by simp only [weN, Bool.and_eq_true, decide_eq_true_eq] at ht; exact ht.1
   rw [wrf t l (by omega) hl (fun r hr => by have := wkh (h4 r hr); omega)]
   simp only [Bool.not_true, cond_false, cond_true, Option.bind_some]
   exact wst
 ·rw [if_neg h, decide_eq_true (by simpa using h)]; rfl
end Go.Pv

namespace Go.Pv
def weA (n : Int) : List Int → List Int
 | [] => [n]
 | x :: l => cond (decide (n ≤ x)) (cond (decide (n < x)) (n :: x :: l) (x :: l)) (x :: weA n l)
def wls (n : Int) (l : List Int) : Bool := l.any fun x => decide (n ≤ x)
theorem wpC {n : Int} : ∀ {l : List Int}, wls n l = false → weA n l = l ++ [n]
 | [], _ => rfl
 | x :: l, h => by
  simp only [wls, List.any_cons, Bool.or_eq_false_iff] at h
  simp only [weA, h.1, cond_false, List.cons_append, wpC (l := l) h.2]
theorem woq (l : List Int) (n : Int) (hl : l.length ≤ 1000000) : ∀ (m i : Nat) (L : List Int), m = l.length - i → L.length ≤ i + 1 → iter (wa7 l n) (true, (i : Int), L) = some (true, L ++ l.drop i)
 | 0, i, L, hm, hL => by
  have h1 : decide ((i : Int) < (l.length : Int)) = false := by simp; omega
  rw [wby, wcq (l) (by omega)]
  unfold wa7
  simp only [h1, cond_false, Option.bind_some, List.append_nil]
 | m + 1, i, L, hm, hL => by
  have hi : i < l.length := by omega
  have h1 : decide ((i : Int) < (l.length : Int)) = true := by simp; omega
  have h2 : idx l (i : Int) = some l[i] := by unfold idx; simp [hi]
  have ih := woq l n hl m (i + 1) (L ++ [l[i]]) (by omega) (by simp; omega)
  rw [wby, List.drop_eq_getElem_cons hi]
  generalize hf0 : wa7 l n = f at ih ⊢
  have hf : f (true, (i : Int), L) = some (.inl (true, IntKind.i64.wrap ((i : Int) + 1), L ++ [l[i]])) := by
   rw [← hf0]; unfold wa7
   simp only [h1, cond_true, Bool.not_true, cond_false, Option.bind_some, h2]
   have : L.length + [l[i]].length ≤ 4294967296 := by simp; omega
   simp only [wah, this, if_true]
  rw [hf]
  simp only [Option.bind_some]
  rw [wap (by omega), show ((i : Int) + 1) = ((i + 1 : Nat) : Int) by omega, ih]
  simp
theorem wor (l : List Int) (n : Int) (hl : l.length ≤ 1000000) : ∀ (m i : Nat) (L : List Int), m = l.length - i → L.length ≤ i → iter (wa7 l n) (false, (i : Int), L) = some (wls n (l.drop i), L ++ cond (wls n (l.drop i)) (weA n (l.drop i)) (l.drop i))
 | 0, i, L, hm, hL => by
  have h1 : decide ((i : Int) < (l.length : Int)) = false := by simp; omega
  rw [wby, wcq (l) (by omega)]
  unfold wa7
  simp only [h1, cond_false, Option.bind_some, wls, List.any_nil, List.append_nil]
 | m + 1, i, L, hm, hL => by
  have hi : i < l.length := by omega
  have h1 : decide ((i : Int) < (l.length : Int)) = true := by simp; omega
  have h2 : idx l (i : Int) = some l[i] := by unfold idx; simp [hi]
  have ihd := fun L hL => woq l n hl m (i + 1) L (by omega) hL
  have ih := wor l n hl m (i + 1) (L ++ [l[i]]) (by omega) (by simp; omega)
  rw [wby, List.drop_eq_getElem_cons hi]
  generalize hf0 : wa7 l n = f at ih ihd ⊢
  have g1 : L.length + [n].length ≤ 4294967296 := by simp; omega
  have g2 : (L ++ [n]).length + [l[i]].length ≤ 4294967296 := by simp; omega
  have g3 : L.length + [l[i]].length ≤ 4294967296 := by simp; omega
  have hf : f (false, (i : Int), L) = cond (decide (n ≤ l[i])) (cond (decide (n < l[i])) (some (.inl (true, IntKind.i64.wrap ((i : Int) + 1), L ++ [n] ++ [l[i]]))) (some (.inl (true, IntKind.i64.wrap ((i : Int) + 1), L ++ [l[i]])))) (some (.inl (false, IntKind.i64.wrap ((i : Int) + 1), L ++ [l[i]]))) := by
   rw [← hf0]; unfold wa7
   simp only [h1, cond_true, Bool.not_false, Option.bind_some, h2]
   cases decide (n ≤ l[i]) with
   | false => simp only [cond_false, Option.bind_some, wah, g3, if_true]
   | true =>
    cases decide (n < l[i]) with
    | false => simp only [cond_true, cond_false, Option.bind_some, wah, g3, if_true]
    | true => simp only [cond_true, Option.bind_some, wah, g1, g2, if_true]
  rw [hf]
  simp only [wls, List.any_cons, weA]
  cases ha : decide (n ≤ l[i]) with
  | false =>
   simp only [cond_false, Option.bind_some, Bool.false_or]
   rw [wap (by omega), show ((i : Int) + 1) = ((i + 1 : Nat) : Int) by omega, ih]
   simp only [wls]
   cases (List.drop (i + 1) l).any fun x => decide (n ≤ x) <;> simp
  | true =>
   cases hb : decide (n < l[i]) with
   | false =>
    simp only [cond_true, cond_false, Option.bind_some, Bool.true_or]
    rw [wap (by omega), show ((i : Int) + 1) = ((i + 1 : Nat) : Int) by omega, ihd _ (by simp; omega)]
    simp
   | true =>
    simp only [cond_true, Option.bind_some, Bool.true_or]
    rw [wap (by omega), show ((i : Int) + 1) = ((i + 1 : Nat) : Int) by omega, ihd _ (by simp; omega)]
    simp
theorem wpD (l : List Int) (n : Int) (hl : l.length ≤ 1000000) : wdc l n = some (weA n l) := by
 unfold wdc
 have h := wor l n hl l.length 0 [] (by omega) (by simp)
 rw [show ((0 : Nat) : Int) = 0 from rfl, List.drop_zero, List.nil_append] at h
 rw [h]
 cases hh : wls n l with
 | true => rfl
 | false =>
  have : l.length + [n].length ≤ 4294967296 := by simp; omega
  simp only [Option.bind_some, cond_false, Bool.not_false, cond_true, wah, this, if_true, wpC hh]
end Go.Pv

namespace Go.Pv
def wpE (set : Int) (i : Nat) : Bool := decide ((set.fdiv (2 ^ (min i 64))).tmod 2 = 1)
def war (r : Rule) (mark : Nat) : Band := r.Bands.getD mark default
def weH (mark : Nat) (set : Int) : Nat → List Rule → List Int → List Int
 | _, [], out => out
 | i, r :: l, out => weH mark set (i + 1) l (cond (wpE set i) (weA (war r mark).Hi (cond (decide (0 < (war r mark).Lo)) (weA (war r mark).Lo out) out)) out)
theorem whd (n : Int) : ∀ l : List Int, (weA n l).length ≤ l.length + 1
 | [] => by simp [weA]
 | x :: l => by
  simp only [weA]
  cases decide (n ≤ x) with
  | true => cases decide (n < x) <;> simp
  | false => simp only [cond_false, List.length_cons]; have := whd n l; omega
theorem wlt (t : List Rule) (mark : Nat) (set : Int) (ht : t.length ≤ 1000) (hm : ∀ r ∈ t, mark < r.Bands.length) : ∀ (n i : Nat) (out : List Int), n = t.length - i → out.length ≤ 1 + 2 * i → iter (wcf t (mark : Int) set) (out, (i : Int)) = some (weH mark set i (t.drop i) out)
 | 0, i, out, hn, ho => by
  have h1 : decide ((i : Int) < (t.length : Int)) = false := by simp; omega
  rw [wby, wcq (t) (by omega)]
  unfold wcf
  simp only [h1, cond_false, Option.bind_some, weH]
 | n + 1, i, out, hn, ho => by
  have hi : i < t.length := by omega
  have h1 : decide ((i : Int) < (t.length : Int)) = true := by simp; omega
  have h2 : idx t (i : Int) = some t[i] := by unfold idx; simp [hi]
  have hmi := hm t[i] (List.getElem_mem hi)
  have h3 : idx t[i].Bands (mark : Int) = some (war t[i] mark) := by unfold idx war; simp [hmi]
  have ih := fun out ho => wlt t mark set ht hm n (i + 1) out (by omega) ho
  rw [wby, List.drop_eq_getElem_cons hi]
  generalize hf0 : wcf t (mark : Int) set = f at ih ⊢
  have p1 := wpD out (war t[i] mark).Lo (by omega)
  have hl1 := whd (war t[i] mark).Lo out
  have hf : f (out, (i : Int)) = some (.inl (cond (wpE set i) (weA (war t[i] mark).Hi (cond (decide (0 < (war t[i] mark).Lo)) (weA (war t[i] mark).Lo out) out)) out, IntKind.i64.wrap ((i : Int) + 1))) := by
   rw [← hf0]; unfold wcf
   have hz : (0 : Int) ≤ (i : Int) := by omega
   simp only [h1, cond_true, wah, hz, if_true, Int.toNat_natCast, wpE]
   cases decide ((set.fdiv (2 ^ (min i 64))).tmod 2 = 1) with
   | false => simp only [cond_false, Option.bind_some]
   | true =>
    simp only [cond_true, h2, h3, Option.bind_some]
    cases decide (0 < (war t[i] mark).Lo) with
    | false => simp only [cond_false, Option.bind_some, wpD out (war t[i] mark).Hi (by omega)]
    | true => simp only [cond_true, Option.bind_some, p1, wpD (weA (war t[i] mark).Lo out) (war t[i] mark).Hi (by omega)]
  rw [hf]
  simp only [Option.bind_some, weH]
  rw [wap (by omega), show ((i : Int) + 1) = ((i + 1 : Nat) : Int) by omega]
  refine ih _ ?_
  cases wpE set i with
  | false => simp only [cond_false]; omega
  | true =>
   simp only [cond_true]
   cases decide (0 < (war t[i] mark).Lo) with
   | false => simp only [cond_false]; have := whd (war t[i] mark).Hi out; omega
   | true => simp only [cond_true]; have := whd (war t[i] mark).Hi (weA (war t[i] mark).Lo out); omega
theorem wnq (t : List Rule) (mark : Nat) (set : Int) (ht : t.length ≤ 1000) (hm : ∀ r ∈ t, mark < r.Bands.length) : wdG t (mark : Int) set = some (weH mark set 0 t [1000]) := by
 unfold wdG
 have h := wlt t mark set ht hm t.length 0 [1000] (by omega) (by simp)
 rw [show ((0 : Nat) : Int) = 0 from rfl, List.drop_zero] at h
 rw [h]; rfl
end Go.Pv

namespace Go.Pv
def OLe {α : Type} (a b : Option α) : Prop := ∀ r, a = some r → b = some r
theorem OLe.refl {α : Type} (a : Option α) : OLe a a := fun _ h => h
theorem OLe.bind {α β : Type} {a a' : Option α} {f f' : α → Option β} (h : OLe a a') (hf : ∀ x, OLe (f x) (f' x)) : OLe (a.bind f) (a'.bind f') := fun r hr => by
 obtain ⟨x, h1, h2⟩ := bind_some hr
 rw [h x h1]; exact hf x r h2
theorem OLe.cond {α : Type} {c : Bool} {a a' b b' : Option α} (h : OLe a a') (h2 : OLe b b') : OLe (cond c a b) (cond c a' b') := fun r hr => by
 cases c
 ·exact h2 r hr
 ·exact h r hr
theorem OLe.guard {α : Type} {p : Prop} [Decidable p] {a a' : Option α} (h : OLe a a') : OLe (wah p a) (wah p a') := fun r hr => by
 unfold wah at hr ⊢
 split at hr
 ·rename_i hp; rw [if_pos hp]; exact h r hr
 ·cases hr
theorem wpF {S X : Type} {f f' : S → Option (S ⊕ X)} (h : ∀ s, OLe (f s) (f' s)) : ∀ (n : Nat) (s : S), OLe (wfu f n s) (wfu f' n s)
 | 0, s => fun r hr => by cases hr
 | n + 1, s => fun r hr => by
  rw [we2] at hr ⊢
  obtain ⟨o, h1, h2⟩ := bind_some hr
  rw [h s o h1]
  cases o with
  | inl s' => exact wpF h n s' r h2
  | inr x => exact h2
theorem OLe.iter {S X : Type} {f f' : S → Option (S ⊕ X)} {n : Nat} {s : S} (h : ∀ s, OLe (f s) (f' s)) : OLe (wfu f n s) (iter f' s) := fun r hr => wlR (wpF h n s r hr)
def wek {S X : Type} (f : S → Option (S ⊕ X)) (s : S) : Option X := wfu f 300 s
theorem OLe.iterQ {S X : Type} {f f' : S → Option (S ⊕ X)} {s : S} (h : ∀ s, OLe (f s) (f' s)) : OLe (wek f s) (Pv.iter f' s) := OLe.iter h
def wnW (x : Int) : List Int → List Int
 | [] => [x]
 | y :: l => if x ≤ y then x :: y :: l else y :: wnW x l
def wd3 : List Int → List Int
 | [] => []
 | x :: l => wnW x (wd3 l)
theorem wlu (x : Int) : ∀ l : List Int, (wnW x l).Perm (x :: l)
 | [] => List.Perm.refl _
 | y :: l => by
  unfold wnW
  split
  ·exact List.Perm.refl _
  ·exact ((wlu x l).cons y).trans (List.Perm.swap x y l)
theorem wmj (x : Int) : ∀ l : List Int, l.Pairwise (· ≤ ·) → (wnW x l).Pairwise (· ≤ ·)
 | [], _ => List.pairwise_singleton ..
 | y :: l, h => by
  unfold wnW
  rw [List.pairwise_cons] at h
  split
  ·rename_i hx
   refine List.pairwise_cons.2 ⟨fun z hz => ?_, List.pairwise_cons.2 h⟩
   rcases List.mem_cons.1 hz with rfl | hz
   ·exact hx
   ·have := h.1 z hz; omega
  ·rename_i hx
   refine List.pairwise_cons.2 ⟨fun z hz => ?_, wmj x l h.2⟩
   rcases List.mem_cons.1 ((wlu x l).mem_iff.1 hz) with rfl | hz
   ·omega
   ·exact h.1 z hz
theorem wnr : ∀ l : List Int, (wd3 l).Perm l
 | [] => List.Perm.refl _
 | x :: l => (wlu x _).trans ((wnr l).cons x)
theorem wlv : ∀ l : List Int, (wd3 l).Pairwise (· ≤ ·)
 | [] => List.Pairwise.nil
 | x :: l => wmj x _ (wlv l)
theorem wmk : ∀ {a b : List Int}, a.Pairwise (· ≤ ·) → b.Pairwise (· ≤ ·) → a.Perm b → a = b
 | [], b, _, _, h => h.nil_eq
 | x :: a, [], _, _, h => by have := h.length_eq; simp at this
 | x :: a, y :: b, h1, h2, h => by
  rw [List.pairwise_cons] at h1 h2
  have e : x = y := by
   have hx : x ∈ y :: b := h.mem_iff.1 (List.mem_cons_self ..)
   have hy : y ∈ x :: a := h.mem_iff.2 (List.mem_cons_self ..)
   rcases List.mem_cons.1 hx with rfl | hx
   ·rfl
   ·rcases List.mem_cons.1 hy with rfl | hy
    ·rfl
    ·have := h1.1 y hy; have := h2.1 x hx; omega
  subst e
  rw [wmk h1.2 h2.2 ((List.perm_cons x).1 h)]
theorem wax (l : List Int) : sortI l = wd3 l := by
 refine wmk ?_ (wlv l) ?_
 ·unfold sortI
  have := List.pairwise_mergeSort (le := fun x y : Int => decide (x ≤ y)) (fun a b c h1 h2 => by simp at *; omega) (fun a b => by simp; omega) l
  exact this.imp fun h => by simpa using h
 ·have : (sortI l).Perm l := by unfold sortI; exact List.mergeSort_perm l _
  exact this.trans (wnr l).symm
def wpG : Nat → Nat → List UInt8
 | 0, _ => []
 | k + 1, u => if u < 10 then [UInt8.ofNat (48 + u)] else wpG k (u / 10) ++ [UInt8.ofNat (48 + u % 10)]
theorem wnX : ∀ (k u : Nat), u < 10 ^ k → 0 < k → wpG k u = Lib.decDigits u
 | 0, u, _, h => by cases h
 | k + 1, u, h, _ => by
  rw [Lib.decDigits]
  simp only [wpG]
  by_cases hu : u < 10
  ·rw [if_pos hu, dif_pos hu]
  ·rw [if_neg hu, dif_neg hu]
   have h2 : u / 10 < 10 ^ k := by rw [Nat.pow_succ] at h; omega
   have h3 : 0 < k := by
    cases k with
    | zero => simp at h2; omega
    | succ k => omega
   rw [wnX k _ h2 h3]
def wrg (n : Int) : Option ByteArray := wah (-1000000 ≤ n ∧ n ≤ 1000000) (some ⟨(if n < 0 then 45 :: wpG 7 n.natAbs else wpG 7 n.toNat).toArray⟩)
theorem wsu (n : Int) : OLe (wrg n) (wlY n) := fun r hr => by
 unfold wrg at hr
 obtain ⟨h1, h2⟩ := wai hr
 unfold wlY wah
 rw [if_pos (by omega), ← h2]
 simp only [Option.some.injEq]
 unfold Lib.itoa
 rw [wnX 7 _ (by omega) (by omega), wnX 7 _ (by omega) (by omega)]
end Go.Pv

