/- TariffCounts answers true for every input, as its tied card says: under the conditions of the card (Rows, Cards, Tie), no more. Part 3 of 7: by one AI agent and its programs; no person has read it. -/
import Derived.Test.YtnfnkllhjaemnaaDoorTariffCountsA
import Derived.Test.YtnfnkllhjaemnaaDoorTariffCountsB
import Derived.Laws.StructEq
import Derived.ChangeKeysEq
import Derived.Lib.MinMax
set_option linter.unusedSimpArgs false
set_option linter.unusedVariables false
set_option linter.all false

namespace Go.Pv
section
variable {P : Program} {G : List (Nat × PD)} {ro : Option Nat} {N : Nat} {σ τ : St} {w w' : World} {X : Nat → Prop} {φ φ' : Nm} {H H' : Heap} {o : Oper} {K : St → Prop} {ops : Array Oper} {B : Base P} {a a' : Act}
mutual
theorem refsIn_of : ∀ {p : PV}, (∀ r ∈ rowsOf p, (hget H r).isSome = true) → refsIn H p
  | .ptr r _ _, h => by simp only [refsIn]; exact h r (by simp [rowsOf])
  | .slc r _ _, h => by simp only [refsIn]; exact h r (by simp [rowsOf])
  | .mp r, h => by simp only [refsIn]; exact h r (by simp [rowsOf])
  | .func _ l, h => by simp only [refsIn]; exact refsInL_of (fun r hr => h r (by simpa [rowsOf] using hr))
  | .agg l, h => by simp only [refsIn]; exact refsInL_of (fun r hr => h r (by simpa [rowsOf] using hr))
  | .tuple l, h => by simp only [refsIn]; exact refsInL_of (fun r hr => h r (by simpa [rowsOf] using hr))
  | .any, _ => by simp only [refsIn]
  | .d _, _ => by simp only [refsIn]
  | .b _, _ => by simp only [refsIn]
  | .dptr .., _ => by simp only [refsIn]
  | .bptr .., _ => by simp only [refsIn]
  | .glob _, _ => by simp only [refsIn]
theorem refsInL_of : ∀ {l : List PV}, (∀ r ∈ rowsOfL l, (hget H r).isSome = true) → refsInL H l
  | [], _ => by simp only [refsInL]
  | p :: l, h => by
    simp only [refsInL]
    exact ⟨refsIn_of (fun r hr => h r (by simp [rowsOfL, hr])), refsInL_of (fun r hr => h r (by simp [rowsOfL, hr]))⟩
end
theorem rowsOfL_all : ∀ {ps : List PV}, (∀ i (hi : i < ps.length), ∀ r ∈ rowsOf ps[i], (hget H r).isSome = true) → ∀ r ∈ rowsOfL ps, (hget H r).isSome = true := by
  intro ps
  induction ps with
  | nil => intro _ r hr; simp [rowsOfL] at hr
  | cons p l ih =>
    intro h r hr
    simp only [rowsOfL, List.mem_append] at hr
    rcases hr with hr | hr
    · exact h 0 (by simp) r hr
    · exact ih (fun i hi => h (i + 1) (by simpa using hi)) r hr
theorem Rep.refs (hr : Rep G B N σ a w φ) : ∀ s y, hget σ.heap s = some y → refsInL σ.heap y.els := by
  intro s y hy
  refine refsInL_of fun r hrr => ?_
  cases hφ : φ s with
  | none => rw [hr.heap.void s y hy hφ] at hrr; simp [rowsOfL] at hrr
  | some b =>
    exact rowsOfL_all (fun i hi => by obtain ⟨v, h4⟩ := (hr.heap.rows s y b hy hφ).el i hi; exact h4.rows) r hrr
theorem Dfr.refs {m : Nat → Prop} {ds : List Deferred} {ps : List PV} (h : Dfr m w X φ H ds ps) : refsInL H ps := by
  induction h with
  | nil => simp only [refsInL]
  | fn h1 h2 h3 _ ih => simp only [refsInL]; exact ⟨refsIn_of h3.rows, ih⟩
  | mark _ _ _ _ _ ih => exact ih
theorem Rep.forget (hr0 : Rep G B N σ a w φ) {r n : Nat} {row : Row} {dst : Option Tmp} {v : PV} (hr : Rep G B N (({ σ with heap := hput σ.heap r row } : St).put dst (.slc r 0 n)) a' w' φ') (hn : hget σ.heap r = none)
    (hd : dstOk N dst) (hf : frzT (hput σ.heap r row) (.slc r 0 n) = some v) : Rep G B N (σ.put dst v) a' w' φ' := by
  have hle : ∀ s y, hget σ.heap s = some y → hget (hput σ.heap r row) s = some y := fun s y h => by
    rw [hget_hput, if_neg (fun e => by subst e; rw [hn] at h; cases h)]; exact h
  have hheap : ((({ σ with heap := hput σ.heap r row } : St).put dst (.slc r 0 n))).heap = hput σ.heap r row := by cases dst <;> rfl
  have hgh : ((({ σ with heap := hput σ.heap r row } : St).put dst (.slc r 0 n))).gh = σ.gh := by cases dst <;> rfl
  have hdfr : ((({ σ with heap := hput σ.heap r row } : St).put dst (.slc r 0 n))).dfr = σ.dfr := by cases dst <;> rfl
  have hsit := hr.sit
  rw [hheap, hgh] at hsit
  have hs := hsit.less hle hr0.refs
  have hd' := hr.dfr
  rw [hheap, hgh, hdfr] at hd'
  refine Rep.of_sit (by cases dst <;> exact hs) hr.size (fun t => ?_) (by cases dst <;> exact hd'.less hle hr0.dfr.refs)
  have he := hr.env t
  rw [hheap] at he
  have hh2 : (σ.put dst v).heap = σ.heap := by cases dst <;> rfl
  rw [hh2]
  cases dst with
  | none => exact he.less hle (refsIn_of (hr0.env t).rows)
  | some d =>
    simp only [St.put, eget_eput] at he ⊢
    split at he
    · rename_i h; rw [if_pos h]
      exact frzT_in hsit.heap hle he (fun s hs => by simp only [rowsOf, List.mem_singleton] at hs; subst hs; exact hn) hf
    · rename_i h; rw [if_neg h]
      exact he.less hle (refsIn_of (hr0.env t).rows)
def litO (P : Program) (σ : St) (op : Op) : Option PV :=
  match op with
  | .buildSlice t len parts => match sliceElem P t with
    | some (_, z) => if zeroOk z = true ∧ inOrder 0 parts.toList = true ∧ parts.toList.length = len ∧ sizesOk z.size (evalL σ (parts.toList.map (·.2))) = true ∧ len * z.size ≤ 16777216 then
        (allD (evalL σ (parts.toList.map (·.2)))).map fun l => .d (.imm z.size l) else none
    | none => none
  | _ => none
theorem evalL_len (σ : St) : ∀ l : List Operand, (evalL σ l).length = l.length
  | [] => rfl
  | x :: l => by simp [evalL, evalL_len σ l]
theorem OpT.litD {v : PV} (h : litO P σ o.op = some v) (hd : dstOk N o.dst) (hK : K (σ.put o.dst v)) : OpT P G ro N o σ K := by
  unfold litO at h
  split at h <;> try (simp at h; done)
  rename_i t len parts ho
  split at h <;> try (simp at h; done)
  rename_i e z hse
  split at h <;> try (simp at h; done)
  rename_i hc
  obtain ⟨h1, h2, h3, h4, h5⟩ := hc
  simp only [Option.map_eq_some_iff] at h
  obtain ⟨l, hl, rfl⟩ := h
  obtain ⟨y, hy, hde, he⟩ := sliceElem_parts hse
  obtain ⟨zv, h6, h7, h8⟩ := zeroOk_some h1
  intro B hro a w φ hr next Q hn
  refine OpT.buildSlice (K := fun τ => τ = (({ σ with heap := hput σ.heap (fresh σ.heap) { e, k := z.size, els := evalL σ (parts.toList.map (·.2)) } } : St).put o.dst (.slc (fresh σ.heap) 0 len))) ho hy hde he h6 h7 h8 h2 h3 h4 h5 hd (hget_fresh _) (fresh_ge _) rfl B hro a w φ hr next Q ?_
  rintro τ a' w' φ' rfl hr'
  refine hn _ _ _ φ' hK (hr.forget hr' (hget_fresh _) hd ?_)
  have hlen : l.length = len := by
    have := congrArg List.length (allD_some _ _ hl)
    simp only [List.length_map, evalL_len] at this
    rw [← h3]; simpa using this.symm
  simp only [frzT, frz, hget_hput, if_true, hl, Option.map_some, List.drop_zero]
  rw [List.take_of_length_le (by omega)]
def vcStepL (P : Program) (N : Nat) (o : Oper) (σ : St) (K : St → Prop) : Prop :=
  dstOk N o.dst ∧ match litO P σ o.op with
    | some v => K (σ.put o.dst v)
    | none => False
def vcOpL (P : Program) (N : Nat) (ds : List (Option Tmp)) (o : Oper) (σ : St) (K : St → Prop) : Prop :=
  match o.guard with
  | none => vcStepL P N o σ K
  | some (j, want) => match gval σ ds j with
    | some b => (b = want → vcStepL P N o σ K) ∧ (b ≠ want → dstOk N o.dst ∧ K (σ.put o.dst (.tuple [])))
    | none => gnone σ ds j = true ∧ dstOk N o.dst ∧ K (σ.put o.dst (.tuple []))
theorem OpT.vcL (h : vcStepL P N o σ K) : OpT P G ro N o σ K := by
  obtain ⟨hd, h⟩ := h
  split at h
  · rename_i v hv; exact OpT.litD hv hd h
  · exact h.elim
theorem AOps.consL {rest : List Oper} {Q : St → Prop} (h : ∀ K : St → Prop, (∀ σ, AOps P G ro N ops rest σ Q → K σ) → vcOpL P N (dsts ops) o σ K) : AOps P G ro N ops (o :: rest) σ Q := by
  have h := h _ (fun _ h => h)
  unfold vcOpL at h
  split at h
  · rename_i hg; exact AOps.step hg (OpT.vcL h)
  · rename_i j want hg
    split at h
    · rename_i b hb
      by_cases hbw : b = want
      · exact AOps.guardedU hg hb (fun hb => OpT.vcL (h.1 hb)) (h.1 hbw).1 (fun hb => (h.2 hb).2)
      · exact AOps.guardedU hg hb (fun hb => OpT.vcL (h.1 hb)) (h.2 hbw).1 (fun hb => (h.2 hb).2)
    · exact AOps.skip hg h.1 h.2.1 h.2.2
theorem litO_agree {σ' : St} {op : Op} (h : ∀ x ∈ opnds op, σ'.eval x = σ.eval x) : litO P σ' op = litO P σ op := by
  cases op <;> try rfl
  case buildSlice t len parts =>
    simp only [litO]
    rw [evalL_agree (σ := σ) (σ' := σ') (l := parts.toList.map (·.2)) (by simpa [opnds] using h)]
theorem OpD.lit {xs : Exc} {v : PV} (h : litO P σ o.op = some v) (hd : dstOk N o.dst) (hx : exE xs (dstEff o.dst v)) :
    OpD P G ro N xs o σ (some (tmpKeys (opnds o.op), dstKeys o.dst)) (σ.put o.dst v) := by
  refine ⟨dstEff o.dst v, fun k hk => by rw [ekeys_dst] at hk; exact hk, hx, fun σ' hd' hs _ => ?_, look_put _ _ _, St.put_rest _ _ _⟩
  have h1 := eval_agree (σ := σ) (σ' := σ') (l := opnds o.op) fun k hk => hs k hk
  exact OpT.litD (by rw [litO_agree h1]; exact h) hd ⟨by rw [St.put_rest]; exact hd', look_put _ _ _⟩
def dvStepL (P : Program) (N : Nat) (xs : Exc) (o : Oper) (σ : St) (K : Foot → St → Prop) : Prop :=
  dstOk N o.dst ∧ match litO P σ o.op with
  | some v => exE xs (dstEff o.dst v) ∧ K (some (tmpKeys (opnds o.op), dstKeys o.dst)) (σ.put o.dst v)
  | none => False
theorem DOps.consL {xs : Exc} {rest : List Oper} {acc : List Foot} {Q : St → Prop} (hg : o.guard = none) (h : ∀ K : Foot → St → Prop, (∀ f σ1, DOps P G ro N xs ops Q rest (acc ++ [f]) σ1 → K f σ1) → dvStepL P N xs o σ K) :
    DOps P G ro N xs ops Q (o :: rest) acc σ := by
  have h := h (fun f σ1 => DOps P G ro N xs ops Q rest (acc ++ [f]) σ1) (fun _ _ h => h)
  obtain ⟨hd, h⟩ := h
  split at h
  · rename_i v hv
    exact .step (DStep.plain hg (OpD.lit hv hd h.1)) h.2
  · exact h.elim
def heapCv : Heap → Heap → Prop
  | [], _ => True
  | (r, x) :: l, h => (∃ y, hget h r = some y ∧ y.e = x.e ∧ y.k = x.k ∧ leVL y.els x.els ∧ (y.els = x.els ∨ y.els.all (fun p => !isByte p) = true)) ∧ heapCv l h
theorem heapCv_get {g : Heap} : ∀ {l : Heap}, heapCv l g → ∀ r x, hget l r = some x → ∃ y, hget g r = some y ∧ y.e = x.e ∧ y.k = x.k ∧ leVL y.els x.els ∧ (y.els = x.els ∨ y.els.all (fun p => !isByte p) = true)
  | [], _, _, _, h => by simp [hget] at h
  | (s, y) :: l, h, r, x, hx => by
    simp only [hget] at hx
    split at hx
    · rename_i e; subst e; simp only [Option.some.injEq] at hx; subst hx; exact h.1
    · exact heapCv_get h.2 r x hx
def hconv (l : Heap) : Heap → Heap
  | [] => []
  | (r, y) :: g => (r, match hget l r with | some x => { y with els := x.els } | none => y) :: hconv l g
theorem hget_hconv (l : Heap) : ∀ (g : Heap) (r : Nat), hget (hconv l g) r = (hget g r).map fun y => match hget l r with | some x => { y with els := x.els } | none => y
  | [], r => rfl
  | (s, y) :: g, r => by
    simp only [hconv, hget]
    split
    · rename_i e; subst e; rfl
    · exact hget_hconv l g r
theorem Sub.rows (L : Heap) (h : heapCv L σ.heap) : Sub G N σ { σ with heap := hconv L σ.heap } := by
  intro P B a w φ hr
  have hgt : ∀ r y, hget σ.heap r = some y → ∃ x, hget (hconv L σ.heap) r = some x ∧ x.e = y.e ∧ x.k = y.k ∧ x.els.length = y.els.length ∧ leVL y.els x.els ∧ (y.els = x.els ∨ y.els.all (fun p => !isByte p) = true) := fun r y hy => by
    rw [hget_hconv, hy, Option.map_some]
    cases h2 : hget L r with
    | none => exact ⟨y, rfl, rfl, rfl, rfl, leVL_refl _, .inl rfl⟩
    | some x =>
      obtain ⟨y', h3, h4, h5, h6⟩ := heapCv_get h r x h2
      rw [hy] at h3; cases h3
      exact ⟨_, rfl, rfl, rfl, (leVL_get h6.1).1.symm, h6⟩
  have hget' : ∀ r x, hget (hconv L σ.heap) r = some x → ∃ y, hget σ.heap r = some y ∧ y.e = x.e ∧ y.k = x.k ∧ x.els.length = y.els.length ∧ leVL y.els x.els ∧ (y.els = x.els ∨ y.els.all (fun p => !isByte p) = true) := fun r x hx => by
    have hx' := hx
    rw [hget_hconv, Option.map_eq_some_iff] at hx'
    obtain ⟨y, hy, _⟩ := hx'
    obtain ⟨x', h1, h2, h3, h4, h5⟩ := hgt r y hy
    rw [hx] at h1; cases h1
    exact ⟨y, hy, h2.symm, h3.symm, h4, h5⟩
  have hrow : ∀ b, rowB φ (hconv L σ.heap) b ↔ rowB φ σ.heap b := fun b =>
    ⟨fun ⟨r, x, h1, h2⟩ => by obtain ⟨y, h3, _⟩ := hget' r x h1; exact ⟨r, y, h3, h2⟩, fun ⟨r, y, h1, h2⟩ => by obtain ⟨x, h3, _⟩ := hgt r y h1; exact ⟨r, x, h3, h2⟩⟩
  have hown : ∀ b, own φ (hconv L σ.heap) b ↔ own φ σ.heap b := fun b => or_congr (hrow b) Iff.rfl
  have hext : Ext w B.X φ σ.heap w φ (hconv L σ.heap) :=
    ⟨fun r y hy => by obtain ⟨x, h1, h2, h3, h4, _⟩ := hgt r y hy; exact ⟨x, h1, h3, fun _ => h4, rfl⟩, fun b hb => ⟨hb.1, hb.2.1, fun ho => hb.2.2 ((hown b).1 ho)⟩, fun b hb => ⟨hb.1, fun ho => hb.2 ((hown b).1 ho)⟩, fun _ _ => rfl, fun r x b _ _ c e f hh => ⟨c, e, f, hh, rfl⟩⟩
  refine ⟨φ, Rep.of_sit ⟨⟨fun r x b hx hb => ?_, fun r x hx hφ => ?_, fun r s x y b hx hy hb hb' => ?_, fun b hT => ⟨(hr.heap.far b hT).1, (hr.heap.far b hT).2.1, fun ho => (hr.heap.far b hT).2.2 ((hrow b).1 ho)⟩⟩, hr.keeps, fun r x b hx hb => ?_, fun r x hx hp => ?_, fun r x b hx hp hb => ?_, ?_, hr.tnew, ?_⟩ hr.size (fun t => (hr.env t).ext hext) ?_⟩
  · obtain ⟨y, h1, h2, h3, h4, h5⟩ := hget' r x hx
    have hro := (hr.heap.rows r y b h1 hb).ext hext rfl
    exact hro.turn h3.symm h2.symm h4 (fun _ _ h => h) hro.free (fun i hi hi' v hv => hv.le ((leVL_get h5.1).2 i hi hi')) fun z hz => by
      rcases h5.2 with h6 | h6
      · rw [h6] at hz; exact hz
      · have := hz.zero_of fun p hp => by simpa using List.all_eq_true.1 h6 p hp
        subst this; exact .zero _
  · obtain ⟨y, h1, h2, h3, h4, h5⟩ := hget' r x hx
    have := hr.heap.void r y h1 hφ
    rw [this] at h4
    simpa using h4
  · obtain ⟨x', h1, _⟩ := hget' r x hx
    obtain ⟨y', h2, _⟩ := hget' s y hy
    exact hr.heap.inj r s x' y' b h1 h2 hb hb'
  · obtain ⟨y, h1, _⟩ := hget' r x hx
    exact hr.new r y b h1 hb
  · obtain ⟨y, h1, _⟩ := hget' r x hx
    exact hr.pins r y h1 hp
  · obtain ⟨y, h1, _⟩ := hget' r x hx
    exact hr.psz r y b h1 hp hb
  · exact hr.glob.ext hext (fun g y hm => by obtain ⟨_, _, _, _, _, h2, _⟩ := hr.glob g y hm; exact fun ho => h2 ((hown g).1 ho))
  · exact J_step (w := w) (φ := φ) (H := σ.heap) hr.inv rfl rfl rfl rfl (Nat.le_refl _) (fun _ _ _ => rfl) (fun b hb => .inl ((hrow b).1 hb))
  · exact hr.dfr.ext hext
theorem row_refs (H : Heap) (l : List PD) : refsInL H (dl l) := by rw [dl_refs]; trivial
theorem frz_row {α : Type} {r e k n : Nat} {f : α → PD} {L : List α} (h : hget H r = some ⟨e, k, dl (lenc f L)⟩) (hn : n = L.length) : frzT H (.slc r 0 n) = some (.d (.imm k (lenc f L))) := by
  subst hn
  simp only [frzT, frz, h, dl_allD, Option.map_some, List.drop_zero, lenc_take, List.take_length]
theorem rows_ptr {r i off : Nat} (h : hget H' r = none) : ∀ s ∈ rowsOf (.ptr r i off), hget H' s = none := by
  intro s hs
  simp only [rowsOf, List.mem_singleton] at hs
  subst hs; exact h
theorem rows_slc {r lo n : Nat} (h : hget H' r = none) : ∀ s ∈ rowsOf (.slc r lo n), hget H' s = none := by
  intro s hs
  simp only [rowsOf, List.mem_singleton] at hs
  subst hs; exact h
theorem le_nil {α : Type} (k : Nat) (f : α → PD) : leV (.d .nilslice) (.d (.imm k (lenc f []))) := by simp only [leV, leD, lenc_nil]
theorem slcl {r n m : Nat} (h : n = m) : PV.slc r 0 n = .slc r 0 m := by rw [h]
theorem slcle {r n m : Nat} (h : n = m) : leV (PV.slc r 0 n) (.slc r 0 m) := by rw [h]; exact leV_refl _
def lstD (k : Nat) (l : List PD) : PD := match l with
  | [] => .nilslice
  | x :: l => .imm k (x :: l)
theorem lstD_le (k : Nat) (l : List PD) : leD (lstD k l) (.imm k l) := by
  cases l with
  | nil => simp only [lstD, leD]
  | cons x l => exact leD_refl _
end
attribute [go_sem] vcOpL vcStepL litO dvStepL dl_cons dl_nil
end Go.Pv

namespace Go.Pv
def partD (P : Program) (t : TypeId) (xs : List PD) (off : Nat) : Option PD :=
  match elemLoad P t (.d (.agg xs)) off with
  | some (.d x) => some x
  | _ => none
def eqFs (P : Program) (E : TypeId → PD → PD → Option Bool) (xs ys : List PD) : List Field → Option Bool
  | [] => some true
  | f :: fs =>
    if (f.name == "_") = true then eqFs P E xs ys fs
    else match partD P f.type xs f.offset, partD P f.type ys f.offset with
      | some a, some b => match E f.type a b, eqFs P E xs ys fs with
        | some r, some q => some (r && q)
        | _, _ => none
      | _, _ => none
def eqIs (P : Program) (E : TypeId → PD → PD → Option Bool) (e : TypeId) (c : Nat) (xs ys : List PD) : List Nat → Option Bool
  | [] => some true
  | i :: is => match partD P e xs (i * c), partD P e ys (i * c) with
    | some a, some b => match E e a b, eqIs P E e c xs ys is with
      | some r, some q => some (r && q)
      | _, _ => none
    | _, _ => none
def eqD (P : Program) : Nat → TypeId → PD → PD → Option Bool
  | 0, _, _, _ => none
  | d + 1, t, x, y => match tyOf P t with
    | none => none
    | some z => match z.desc with
      | .int _ => match x, y with
        | .int k a, .int k' b => if k = k' then some (a == b) else none
        | _, _ => none
      | .bool => match x, y with
        | .bool a, .bool b => some (a == b)
        | _, _ => none
      | .string => match x, y with
        | .str a, .str b => some (a == b)
        | _, _ => none
      | .struct fs => match x, y with
        | .agg xs, .agg ys => if P.stoodInHeld t = false then eqFs P (eqD P d) xs ys fs.toList else none
        | _, _ => none
      | .array n e => match x, y with
        | .agg xs, .agg ys => match tyOf P e with
          | some q => eqIs P (eqD P d) e q.size xs ys (List.range n)
          | none => none
        | _, _ => none
      | _ => none
theorem eqD_s (P : Program) (d : Nat) (t : TypeId) (x y : PD) : eqD P (d + 1) t x y = match tyOf P t with
    | none => none
    | some z => match z.desc with
      | .int _ => match x, y with
        | .int k a, .int k' b => if k = k' then some (a == b) else none
        | _, _ => none
      | .bool => match x, y with
        | .bool a, .bool b => some (a == b)
        | _, _ => none
      | .string => match x, y with
        | .str a, .str b => some (a == b)
        | _, _ => none
      | .struct fs => match x, y with
        | .agg xs, .agg ys => if P.stoodInHeld t = false then eqFs P (eqD P d) xs ys fs.toList else none
        | _, _ => none
      | .array n e => match x, y with
        | .agg xs, .agg ys => match tyOf P e with
          | some q => eqIs P (eqD P d) e q.size xs ys (List.range n)
          | none => none
        | _, _ => none
      | _ => none := rfl
def eqV (P : Program) (t : TypeId) (p q : PV) : Option Bool :=
  match p, q with
  | .d (.agg a), .d (.agg b) => if P.eqGuardType P.depth t = false then eqD P 8 t (.agg a) (.agg b) else none
  | _, _ => none
def maxO (lo : Bool) : List PV → Option PV
  | [.d (.int k a), .d (.int k' b)] => if k = k' then some (.d (.int k (if lo then min a b else max a b))) else none
  | _ => none
def xOp (P : Program) (σ : St) (op : Op) : Option PV :=
  match op with
  | .binOp .eql t x y _ => (eqV P t (σ.eval x) (σ.eval y)).map fun b => .d (.bool b)
  | .binOp .neq t x y _ => (eqV P t (σ.eval x) (σ.eval y)).map fun b => .d (.bool (!b))
  | .call c => match c.callee with
    | .builtin .max => maxO false (evalL σ c.args.toList)
    | .builtin .min => maxO true (evalL σ c.args.toList)
    | _ => none
  | _ => none
section
variable {P : Program} {G : List (Nat × PD)} {ro : Option Nat} {N : Nat} {σ τ : St} {w w' : World} {X : Nat → Prop} {φ φ' : Nm} {H H' : Heap} {o : Oper} {K : St → Prop} {ops : Array Oper} {B : Base P} {a a' : Act}
theorem partD_ok {t : TypeId} {xs : List PD} {off : Nat} {x : PD} {vs : Array Value} (h : partD P t xs off = some x) (hv : RepV w X φ H (.agg vs) (.d (.agg xs))) :
    ∃ z, (part t vs off).run P w = .ok z w ∧ RepV w X φ H z (.d x) := by
  unfold partD at h
  split at h <;> simp only [Option.some.injEq, reduceCtorEq] at h
  rename_i y hy; subst h
  obtain ⟨vs', z, h1, h2, h3⟩ := elemLoad_part (P := P) rfl hy hv
  cases h1
  exact ⟨z, h2, h3⟩
theorem eqFs_ok {E : TypeId → PD → PD → Option Bool} {n : Nat} (hE : ∀ t x y r, E t x y = some r → ∀ u v, RepV w X φ H u (.d x) → RepV w X φ H v (.d y) → (Op.equalIn n t u v).run P w = .ok r w) {xs ys : List PD} {us vs : Array Value} (hu : RepV w X φ H (.agg us) (.d (.agg xs))) (hv : RepV w X φ H (.agg vs) (.d (.agg ys))) :
    ∀ {fs : List Field} {r : Bool}, eqFs P E xs ys fs = some r → (Op.eqFields n us vs fs).run P w = .ok r w := by
  intro fs
  induction fs with
  | nil =>
    intro r h
    simp only [eqFs, Option.some.injEq] at h
    subst h; rfl
  | cons f fs ih =>
    intro r h
    simp only [eqFs] at h
    split at h
    · rename_i hn
      have hn : f.name = "_" := by simpa using hn
      simp only [Op.eqFields, hn, ne_eq, not_true_eq_false, if_false]
      exact ih h
    · rename_i hn
      have hn : f.name ≠ "_" := by simpa using hn
      split at h <;> try (simp at h; done)
      rename_i p q hp hq
      split at h <;> simp only [Option.some.injEq, reduceCtorEq] at h
      rename_i r1 r2 h1 h2; subst h
      obtain ⟨u, e1, e2⟩ := partD_ok (P := P) hp hu
      obtain ⟨v, e3, e4⟩ := partD_ok (P := P) hq hv
      have e5 := hE _ _ _ _ h1 _ _ e2 e4
      simp only [Op.eqFields, hn, ne_eq, not_false_eq_true, if_true, Sem.run_bind, e1, e3, e5, Result.andThen_ok]
      cases r1
      · simp
      · simp only [Bool.not_true, Bool.false_eq_true, if_false, Bool.true_and]
        exact ih h2
theorem eqIs_ok {E : TypeId → PD → PD → Option Bool} {n : Nat} (hE : ∀ t x y r, E t x y = some r → ∀ u v, RepV w X φ H u (.d x) → RepV w X φ H v (.d y) → (Op.equalIn n t u v).run P w = .ok r w) {e : TypeId} {c : Nat} {xs ys : List PD} {us vs : Array Value} (hu : RepV w X φ H (.agg us) (.d (.agg xs))) (hv : RepV w X φ H (.agg vs) (.d (.agg ys))) :
    ∀ {is : List Nat} {r : Bool}, eqIs P E e c xs ys is = some r → (Op.eqItems n e c us vs is).run P w = .ok r w := by
  intro is
  induction is with
  | nil =>
    intro r h
    simp only [eqIs, Option.some.injEq] at h
    subst h; simp [Op.eqItems]
  | cons i is ih =>
    intro r h
    simp only [eqIs] at h
    split at h <;> try (simp at h; done)
    rename_i p q hp hq
    split at h <;> simp only [Option.some.injEq, reduceCtorEq] at h
    rename_i r1 r2 h1 h2; subst h
    obtain ⟨u, e1, e2⟩ := partD_ok (P := P) hp hu
    obtain ⟨v, e3, e4⟩ := partD_ok (P := P) hq hv
    have e5 := hE _ _ _ _ h1 _ _ e2 e4
    simp only [Op.eqItems, Sem.run_bind, e1, e3, e5, Result.andThen_ok]
    cases r1
    · simp
    · simp only [Bool.not_true, Bool.false_eq_true, if_false, Bool.true_and]
      exact ih h2
theorem eqD_ok (m : Nat) : ∀ (d : Nat) (t : TypeId) (x y : PD) (r : Bool), eqD P d t x y = some r → ∀ u v, RepV w X φ H u (.d x) → RepV w X φ H v (.d y) → (Op.equalIn (m + d) t u v).run P w = .ok r w := by
  intro d
  induction d with
  | zero => intro t x y r h; simp [eqD] at h
  | succ d ih =>
    intro t x y r h u v hu hv
    unfold eqD at h
    split at h <;> try (simp at h; done)
    rename_i z hz
    have hun := (tyOf_parts hz).1
    rw [show m + (d + 1) = (m + d) + 1 from rfl]
    split at h <;> try (simp at h; done)
    · rename_i k hd
      split at h <;> try (simp at h; done)
      split at h <;> simp only [Option.some.injEq, reduceCtorEq] at h
      rename_i hk; subst hk; subst h
      rw [repV_int hu, repV_int hv]
      exact run_equalIn_int w (m + d) t _ k _ _ (by rw [hun, hd])
    · rename_i hd
      split at h <;> simp only [Option.some.injEq, reduceCtorEq] at h
      subst h
      rw [repV_bool hu, repV_bool hv]
      exact run_equalIn_bool w (m + d) t _ _ (by rw [hun, hd])
    · rename_i hd
      split at h <;> simp only [Option.some.injEq, reduceCtorEq] at h
      subst h
      rw [repV_str hu, repV_str hv, beq_toListBytes]
      exact run_equalIn_string w (m + d) t _ _ (by rw [hun, hd])
    · rename_i fs hd
      split at h <;> try (simp at h; done)
      rename_i xs ys
      split at h <;> try (simp at h; done)
      rename_i hst
      obtain ⟨us, rfl, _⟩ := repD_agg_size (repV_d hu)
      obtain ⟨vs, rfl, _⟩ := repD_agg_size (repV_d hv)
      have hf : P.fieldsOf t = fs := by simp only [Program.fieldsOf, hun, hd]
      rw [run_equalIn_struct w (m + d) t us vs (by rw [hf, hun, hd]) hst, hf]
      exact eqFs_ok ih hu hv h
    · rename_i n e hd
      split at h <;> try (simp at h; done)
      rename_i xs ys
      split at h <;> try (simp at h; done)
      rename_i q hq
      obtain ⟨us, rfl, _⟩ := repD_agg_size (repV_d hu)
      obtain ⟨vs, rfl, _⟩ := repD_agg_size (repV_d hv)
      obtain ⟨i, hi, hs⟩ : ∃ i, P.info? e = some i ∧ i.size = q.size := by obtain ⟨_, i, h1, h2, _⟩ := tyOf_parts hq; exact ⟨i, h1, h2⟩
      rw [run_equalIn_array w (m + d) us vs (by rw [hun, hd]) hi, show P.cellsOf e = q.size by simp [Program.cellsOf, hi, hs]]
      exact eqIs_ok ih hu hv h
theorem eqV_ok {t : TypeId} {p q : PV} {r : Bool} (h : eqV P t p q = some r) {u v : Value} (hu : RepV w X φ H u p) (hv : RepV w X φ H v q) :
    ∃ us vs, u = .agg us ∧ v = .agg vs ∧ P.eqGuardType P.depth t = false ∧ (Op.equalIn 10000 t u v).run P w = .ok r w := by
  unfold eqV at h
  split at h <;> try (simp at h; done)
  split at h <;> try (simp at h; done)
  rename_i hg
  have := eqD_ok 9992 8 _ _ _ _ h _ _ hu hv
  obtain ⟨us, rfl, _⟩ := repD_agg_size (repV_d hu)
  obtain ⟨vs, rfl, _⟩ := repD_agg_size (repV_d hv)
  exact ⟨us, vs, rfl, rfl, hg, this⟩
theorem evalL_args (hr : Rep G B N σ a w φ) {c : Call} {p q : PV} (h : evalL σ c.args.toList = [p, q]) : ∃ x y, c.args = #[x, y] ∧ σ.eval x = p ∧ σ.eval y = q := by
  rcases hc : c.args with ⟨l⟩
  rw [hc] at h
  match l, h with
  | [x, y], h => simp [evalL] at h; exact ⟨x, y, rfl, h.1, h.2⟩
  | [], h => simp [evalL] at h
  | [_], h => simp [evalL] at h
  | _ :: _ :: _ :: _, h => simp [evalL] at h
theorem xOp_ok (hr : Rep G B N σ a w φ) {o : Oper} {v : PV} (h : xOp P σ o.op = some v) (ro : Option Nat) : ∃ u, (o.semAt ro a.eval).run P w = .ok (.value u) w ∧ RepV w B.X φ σ.heap u v := by
  rw [Oper.semAt_eq _ _ _ (fun c hc => by rw [hc] at h; simp [xOp] at h)]
  unfold execOp
  unfold xOp at h
  split at h <;> (try (simp at h; done)) <;> rename_i ho <;> simp only [ho]
  · rename_i t x y t2
    simp only [Option.map_eq_some_iff] at h
    obtain ⟨b, hb, rfl⟩ := h
    obtain ⟨us, vs, hu, hv, hg, he⟩ := eqV_ok (P := P) hb (hr.eval x) (hr.eval y)
    refine ⟨.bool b, run_v ?_, .d (.bool _)⟩
    rw [Sem.run_bind, hu, hv, run_eqGuard_agg w .eql t x y us vs hg]
    rw [hu, hv] at he
    show (binOp .eql t (.agg us) (.agg vs)).run P w = _
    rw [run_eql_struct, he]; rfl
  · rename_i t x y t2
    simp only [Option.map_eq_some_iff] at h
    obtain ⟨b, hb, rfl⟩ := h
    obtain ⟨us, vs, hu, hv, hg, he⟩ := eqV_ok (P := P) hb (hr.eval x) (hr.eval y)
    refine ⟨.bool (!b), run_v ?_, .d (.bool _)⟩
    rw [Sem.run_bind, hu, hv, run_eqGuard_agg w .neq t x y us vs hg]
    rw [hu, hv] at he
    show (binOp .neq t (.agg us) (.agg vs)).run P w = _
    rw [run_neq_struct, he]; rfl
  · rename_i c
    have key : ∀ {lo : Bool} {v : PV}, maxO lo (evalL σ c.args.toList) = some v → ∃ k n m, v = .d (.int k (if lo then min n m else max n m)) ∧ ∃ x y, c.args = #[x, y] ∧ a.eval x = .int k n ∧ a.eval y = .int k m := by
      intro lo v h
      unfold maxO at h
      split at h <;> try (simp at h; done)
      rename_i k n k' m he
      split at h <;> simp only [Option.some.injEq, reduceCtorEq] at h
      rename_i hk; subst hk; subst h
      obtain ⟨x, y, h1, h2, h3⟩ := evalL_args hr he
      have hx := hr.eval x; have hy := hr.eval y
      rw [h2] at hx; rw [h3] at hy
      exact ⟨k, n, m, rfl, x, y, h1, repV_int hx, repV_int hy⟩
    split at h <;> try (simp at h; done)
    · rename_i hc
      obtain ⟨k, n, m, rfl, x, y, h1, h2, h3⟩ := key h
      refine ⟨.int k (max n m), ?_, .d (.int _ _)⟩
      simp only [resolve, hc, h1, Sem.run_bind, Sem.run_pure, Result.andThen, invoke, builtin, List.map_toArray, List.map_cons, List.map_nil, h2, h3, Go.Lib.run_max_ints]
    · rename_i hc
      obtain ⟨k, n, m, rfl, x, y, h1, h2, h3⟩ := key h
      refine ⟨.int k (min n m), ?_, .d (.int _ _)⟩
      simp only [resolve, hc, h1, Sem.run_bind, Sem.run_pure, Result.andThen, invoke, builtin, List.map_toArray, List.map_cons, List.map_nil, h2, h3, Go.Lib.run_min_ints]
theorem OpT.x {v : PV} (h : xOp P σ o.op = some v) (hd : dstOk N o.dst) (hK : K (σ.put o.dst v)) : OpT P G ro N o σ K := by
  intro B hro a w φ hr next Q hn
  obtain ⟨u, h1, h2⟩ := xOp_ok hr h ro
  exact wpIn_value h1 (hn _ _ _ φ hK (hr.put hd h2))
theorem xOp_agree {σ' : St} {op : Op} (h : ∀ x ∈ opnds op, σ'.eval x = σ.eval x) : xOp P σ' op = xOp P σ op := by
  cases op <;> try rfl
  case binOp bop t x y z =>
    simp only [opnds, List.mem_cons, List.not_mem_nil, or_false, forall_eq_or_imp, forall_eq] at h
    cases bop <;> try rfl
    all_goals simp only [xOp, h.1, h.2]
  case call c =>
    simp only [xOp]
    have : evalL σ' c.args.toList = evalL σ c.args.toList := evalL_agree fun x hx => h x (by
      simp only [opnds]
      cases c.callee <;> simp_all)
    rw [this]
theorem OpD.x {xs : Exc} {v : PV} (h : xOp P σ o.op = some v) (hd : dstOk N o.dst) (hx : exE xs (dstEff o.dst v)) :
    OpD P G ro N xs o σ (some (tmpKeys (opnds o.op), dstKeys o.dst)) (σ.put o.dst v) := by
  refine ⟨dstEff o.dst v, fun k hk => by rw [ekeys_dst] at hk; exact hk, hx, fun σ' hd' hs _ => ?_, look_put _ _ _, St.put_rest _ _ _⟩
  have h1 := eval_agree (σ := σ) (σ' := σ') (l := opnds o.op) fun k hk => hs k hk
  exact OpT.x (by rw [xOp_agree h1]; exact h) hd ⟨by rw [St.put_rest]; exact hd', look_put _ _ _⟩
def vcStepX (P : Program) (N : Nat) (o : Oper) (σ : St) (K : St → Prop) : Prop :=
  dstOk N o.dst ∧ match xOp P σ o.op with
    | some v => K (σ.put o.dst v)
    | none => False
def vcOpX (P : Program) (N : Nat) (ds : List (Option Tmp)) (o : Oper) (σ : St) (K : St → Prop) : Prop :=
  match o.guard with
  | none => vcStepX P N o σ K
  | some (j, want) => match gval σ ds j with
    | some b => (b = want → vcStepX P N o σ K) ∧ (b ≠ want → dstOk N o.dst ∧ K (σ.put o.dst (.tuple [])))
    | none => gnone σ ds j = true ∧ dstOk N o.dst ∧ K (σ.put o.dst (.tuple []))
theorem OpT.vcX (h : vcStepX P N o σ K) : OpT P G ro N o σ K := by
  obtain ⟨hd, h⟩ := h
  split at h
  · rename_i v hv; exact OpT.x hv hd h
  · exact h.elim
theorem AOps.consX {rest : List Oper} {Q : St → Prop} (h : ∀ K : St → Prop, (∀ σ, AOps P G ro N ops rest σ Q → K σ) → vcOpX P N (dsts ops) o σ K) : AOps P G ro N ops (o :: rest) σ Q := by
  have h := h _ (fun _ h => h)
  unfold vcOpX at h
  split at h
  · rename_i hg; exact AOps.step hg (OpT.vcX h)
  · rename_i j want hg
    split at h
    · rename_i b hb
      by_cases hbw : b = want
      · exact AOps.guardedU hg hb (fun hb => OpT.vcX (h.1 hb)) (h.1 hbw).1 (fun hb => (h.2 hb).2)
      · exact AOps.guardedU hg hb (fun hb => OpT.vcX (h.1 hb)) (h.2 hbw).1 (fun hb => (h.2 hb).2)
    · exact AOps.skip hg h.1 h.2.1 h.2.2
variable {xs : Exc}
theorem exE_tuple0 (dst : Option Tmp) : exE xs (dstEff dst (.tuple [])) := by
  cases dst with
  | none => trivial
  | some d =>
    refine ⟨?_, trivial⟩
    induction xs with
    | nil => trivial
    | cons x l ih => obtain ⟨r, S⟩ := x; exact ⟨.inr (by simp [Cont.rows, rowsOf, rowsOfL]), ih⟩
theorem DStep.noU {j : Nat} {want b : Bool} (hg : o.guard = some (j, want)) (hb : gval σ (dsts ops) j = some b) (hne : b ≠ want) (hd : dstOk N o.dst) :
    DStep P G ro N xs ops o σ (some (gkeys (dsts ops) o.guard, dstKeys o.dst)) (σ.put o.dst (.tuple [])) := by
  refine ⟨dstEff o.dst (.tuple []), fun k hk => by rw [ekeys_dst] at hk; exact hk, exE_tuple0 _, fun s' hs _ B hro a w hR next Q hn => ?_, look_put _ _ _, St.put_rest _ _ _⟩
  obtain ⟨σ', φ, hd', hl, hr⟩ := hR
  have hgv : gval σ' (dsts ops) j = some b := by
    rw [gval_look (σ := σ) (want := want) fun k hk => by rw [hl]; exact hs k (by rw [hg]; exact hk)]; exact hb
  have hy := gval_ok hr hgv
  have : (some b == some want) = false := by simp [hne]
  simp only [Region.wanted, hg, hy, this, Bool.false_eq_true, if_false]
  exact ⟨fun _ _ => trivial, hn _ _ ⟨σ'.put o.dst (.tuple []), φ, by rw [St.put_rest]; exact hd', by rw [look_put, hl], hr.put hd repV_undef⟩⟩
theorem gnone_look {σ' : St} {ds : List (Option Tmp)} {j : Nat} {want : Bool} (h : ∀ k ∈ gkeys ds (some (j, want)), σ'.look k = σ.look k) : gnone σ' ds j = gnone σ ds j := by
  unfold gnone
  simp only [gkeys] at h
  cases hds : ds[j]? with
  | none => rfl
  | some od =>
    cases od with
    | none => rfl
    | some d =>
      rw [hds] at h
      have := h (.t d) (by simp)
      simp only [St.look, Cont.v.injEq] at this
      simp only [this]
theorem DStep.skipU {j : Nat} {want : Bool} (hg : o.guard = some (j, want)) (hb : gnone σ (dsts ops) j = true) (hd : dstOk N o.dst) :
    DStep P G ro N xs ops o σ (some (gkeys (dsts ops) o.guard, dstKeys o.dst)) (σ.put o.dst (.tuple [])) := by
  refine ⟨dstEff o.dst (.tuple []), fun k hk => by rw [ekeys_dst] at hk; exact hk, exE_tuple0 _, fun s' hs _ B hro a w hR next Q hn => ?_, look_put _ _ _, St.put_rest _ _ _⟩
  obtain ⟨σ', φ, hd', hl, hr⟩ := hR
  have hgv : gnone σ' (dsts ops) j = true := by
    rw [gnone_look (σ := σ) (want := want) fun k hk => by rw [hl]; exact hs k (by rw [hg]; exact hk)]; exact hb
  have hy := gnone_ok hr hgv want
  simp only [Region.wanted, hg, hy, Bool.false_eq_true, if_false]
  exact ⟨fun _ _ => trivial, hn _ _ ⟨σ'.put o.dst (.tuple []), φ, by rw [St.put_rest]; exact hd', by rw [look_put, hl], hr.put hd repV_undef⟩⟩
def dgStep (N : Nat) (ds : List (Option Tmp)) (o : Oper) (σ : St) (S : (Foot → St → Prop) → Prop) (K : Foot → St → Prop) : Prop :=
  match o.guard with
  | none => S K
  | some (j, want) => match gval σ ds j with
    | some b => (b = want → S (fun f σ1 => K (f.plus (gkeys ds o.guard)) σ1)) ∧ (b ≠ want → dstOk N o.dst ∧ K (some (gkeys ds o.guard, dstKeys o.dst)) (σ.put o.dst (.tuple [])))
    | none => gnone σ ds j = true ∧ dstOk N o.dst ∧ K (some (gkeys ds o.guard, dstKeys o.dst)) (σ.put o.dst (.tuple []))
theorem DOps.guard {rest : List Oper} {acc : List Foot} {Q : St → Prop} {S : (Foot → St → Prop) → Prop} (hS : ∀ K, S K → OpX P G ro N xs o σ K)
    (h : ∀ K : Foot → St → Prop, (∀ f σ1, DOps P G ro N xs ops Q rest (acc ++ [f]) σ1 → K f σ1) → dgStep N (dsts ops) o σ S K) :
    DOps P G ro N xs ops Q (o :: rest) acc σ := by
  have h := h (fun f σ1 => DOps P G ro N xs ops Q rest (acc ++ [f]) σ1) (fun _ _ h => h)
  unfold dgStep at h
  split at h
  · rename_i hg
    obtain ⟨f, σ1, h1, h2⟩ := hS _ h
    exact .step (DStep.plain hg h1) h2
  · rename_i j want hg
    split at h
    · rename_i b hb
      by_cases hbw : b = want
      · subst hbw
        obtain ⟨f, σ1, h1, h2⟩ := hS _ (h.1 rfl)
        exact .step (DStep.yes hg hb h1) h2
      · obtain ⟨h1, h2⟩ := h.2 hbw
        exact .step (DStep.noU hg hb hbw h1) h2
    · exact .step (DStep.skipU hg h.1 h.2.1) h.2.2
theorem DOps.consU {rest : List Oper} {acc : List Foot} {Q : St → Prop} (h : ∀ K : Foot → St → Prop, (∀ f σ1, DOps P G ro N xs ops Q rest (acc ++ [f]) σ1 → K f σ1) → dgStep N (dsts ops) o σ (dvStep P G ro N xs o σ) K) :
    DOps P G ro N xs ops Q (o :: rest) acc σ := DOps.guard (fun _ => OpX.vc) h
theorem OpX.vcL {K : Foot → St → Prop} (h : dvStepL P N xs o σ K) : OpX P G ro N xs o σ K := by
  obtain ⟨hd, h⟩ := h
  split at h
  · rename_i v hv; exact ⟨_, _, OpD.lit hv hd h.1, h.2⟩
  · exact h.elim
def dvStepX (P : Program) (N : Nat) (xs : Exc) (o : Oper) (σ : St) (K : Foot → St → Prop) : Prop :=
  dstOk N o.dst ∧ match xOp P σ o.op with
  | some v => exE xs (dstEff o.dst v) ∧ K (some (tmpKeys (opnds o.op), dstKeys o.dst)) (σ.put o.dst v)
  | none => False
theorem OpX.vcX {K : Foot → St → Prop} (h : dvStepX P N xs o σ K) : OpX P G ro N xs o σ K := by
  obtain ⟨hd, h⟩ := h
  split at h
  · rename_i v hv; exact ⟨_, _, OpD.x hv hd h.1, h.2⟩
  · exact h.elim
theorem DOps.consLU {rest : List Oper} {acc : List Foot} {Q : St → Prop} (h : ∀ K : Foot → St → Prop, (∀ f σ1, DOps P G ro N xs ops Q rest (acc ++ [f]) σ1 → K f σ1) → dgStep N (dsts ops) o σ (dvStepL P N xs o σ) K) :
    DOps P G ro N xs ops Q (o :: rest) acc σ := DOps.guard (fun _ => OpX.vcL) h
theorem DOps.consX {rest : List Oper} {acc : List Foot} {Q : St → Prop} (h : ∀ K : Foot → St → Prop, (∀ f σ1, DOps P G ro N xs ops Q rest (acc ++ [f]) σ1 → K f σ1) → dgStep N (dsts ops) o σ (dvStepX P N xs o σ) K) :
    DOps P G ro N xs ops Q (o :: rest) acc σ := DOps.guard (fun _ => OpX.vcX) h
theorem DOps.consC {rest : List Oper} {acc : List Foot} {Q : St → Prop} (h : ∀ K : Foot → St → Prop, (∀ f σ1, DOps P G ro N xs ops Q rest (acc ++ [f]) σ1 → K f σ1) → dgStep N (dsts ops) o σ (OpX P G ro N xs o σ) K) :
    DOps P G ro N xs ops Q (o :: rest) acc σ := DOps.guard (fun _ h => h) h
def vcOpC (P : Program) (G : List (Nat × PD)) (ro : Option Nat) (N : Nat) (ds : List (Option Tmp)) (o : Oper) (σ : St) (K : St → Prop) : Prop :=
  match o.guard with
  | none => OpT P G ro N o σ K
  | some (j, want) => match gval σ ds j with
    | some b => (b = want → OpT P G ro N o σ K) ∧ (b ≠ want → dstOk N o.dst ∧ K (σ.put o.dst (.tuple [])))
    | none => gnone σ ds j = true ∧ dstOk N o.dst ∧ K (σ.put o.dst (.tuple []))
theorem AOps.consC {rest : List Oper} {Q : St → Prop} (hd : dstOk N o.dst) (h : ∀ K : St → Prop, (∀ σ, AOps P G ro N ops rest σ Q → K σ) → vcOpC P G ro N (dsts ops) o σ K) : AOps P G ro N ops (o :: rest) σ Q := by
  have h := h _ (fun _ h => h)
  unfold vcOpC at h
  split at h
  · rename_i hg; exact AOps.step hg h
  · rename_i j want hg
    split at h
    · rename_i b hb
      exact AOps.guardedU hg hb h.1 hd (fun hb => (h.2 hb).2)
    · exact AOps.skip hg h.1 h.2.1 h.2.2
theorem OpT.callV {c : Call} {xo : Operand} {f : FuncId} {args : List PV} {res : PV} {K : St → Prop} (ho : o.op = .call c) (hc : c.callee = .value xo) (hx : calleeV (σ.eval xo) = some (f, [])) (hcal : callable P f = true)
    (hf : PureFn P G f args res) (ha : argsOk σ.heap (evalL σ c.args.toList) args) (hd : dstOk N o.dst) (hK : K (σ.put o.dst res)) (hres : dOnly res) (hcl : clean res) (hrf : refsIn [] res) (hren : res.ren id = res) : OpT P G ro N o σ K := by
  refine OpT.callG (g := id) (gc := none) ho hc hx hcal hf (hand_nil σ) (.inl rfl) (handsOk_of_args (by simpa using ha)) hd ?_
  rintro p H' g' ⟨rfl, rfl⟩
  refine ⟨id, ⟨fun r x' h => by simp [hget] at h, fun r x h => by simp [hget] at h, fun r x' h => by simp [hget] at h, fun r s x y h => by simp [hget] at h, fun r x h => by simp [hget] at h⟩, hcl, hrf, ?_⟩
  rw [hren]
  exact hK
end
attribute [go_sem] xOp eqV eqD_s eqFs eqIs partD maxO vcStepX vcOpX dgStep dvStepX vcOpC dvStep calleeV
end Go.Pv

namespace Go.Pv
section
variable {P : Program} {G : List (Nat × PD)} {N : Nat} {σ : St}
end
attribute [go_sem] cleanEnv cleanHeap
@[go_sem high] theorem lenV_lst {α : Type} (e : TypeId) (k : Nat) (f : α → PD) (l : List α) : lenV (.slice e) (.d (lstD k (lenc f l))) = some (l.length : Int) := by
  cases l with
  | nil => rfl
  | cons x l => simp [lstD, lenc, lenV]
@[go_sem high] theorem nilEq_lst {α : Type} (e : TypeId) (k : Nat) (f : α → PD) (l : List α) : nilEq (.slice e) (.d (lstD k (lenc f l))) (.d .nilslice) = some l.isEmpty := by
  cases l with
  | nil => rfl
  | cons x l => simp [lstD, lenc, nilEq, guardO]
@[go_sem high] theorem binV_lst {α : Type} (P : Program) (t : TypeId) (k : Nat) (f : α → PD) (l : List α) : binV P .eql t (.d (lstD k (lenc f l))) (.d .nilslice) = (tyOf P t).bind fun z => (nilEq z.desc (.d (lstD k (lenc f l))) (.d .nilslice)).map fun r => .d (.bool r) := by
  cases l <;> rfl
@[go_sem high] theorem binV_lst' {α : Type} (P : Program) (t : TypeId) (k : Nat) (f : α → PD) (l : List α) : binV P .neq t (.d (lstD k (lenc f l))) (.d .nilslice) = (tyOf P t).bind fun z => (nilEq z.desc (.d (lstD k (lenc f l))) (.d .nilslice)).map fun r => .d (.bool (!r)) := by
  cases l <;> rfl
@[go_sem high] theorem pvCells_lst {α : Type} (k : Nat) (f : α → PD) (l : List α) : pvCells (.d (lstD k (lenc f l))) = some [.d (lstD k (lenc f l))] := by
  cases l <;> rfl
@[go_sem high] theorem elemLoad_lst {α : Type} (P : Program) (t : TypeId) (k : Nat) (f : α → PD) (l : List α) (off : Nat) : elemLoad P t (.d (lstD k (lenc f l))) off = match tyOf P t with
    | none => none
    | some y => if isAggD y.desc = true then none else if off = 0 then some (.d (lstD k (lenc f l))) else none := by
  unfold elemLoad
  cases tyOf P t with
  | none => rfl
  | some y => cases l <;> rfl
theorem FnG.less {P : Program} {G : List (Nat × PD)} {f : FuncId} {args : List PV} {H : Heap} {g : Gh} {R R2 : PV → Heap → Gh → Prop} (h : FnG P G f args H g R)
    (hl : ∀ p H' g', R p H' g' → ∃ H2, heapLe H2 H' ∧ heapRefs H2 H2 ∧ refsIn H2 p ∧ R2 p H2 g') : FnG P G f args H g R2 := by
  intro B φ vs h0 h1 h2 h3
  refine (h B φ vs h0 h1 h2 h3).mono ?_
  rintro e w' ⟨v, p, H', g', φ', he, hR, hv, hs⟩
  obtain ⟨H2, h4, h5, h6, h7⟩ := hl p H' g' hR
  exact ⟨v, p, H2, g', φ', he, h7, hv.less (heapLe_get h4) h6, hs.less (heapLe_get h4) (heapRefs_get h5)⟩
end Go.Pv

