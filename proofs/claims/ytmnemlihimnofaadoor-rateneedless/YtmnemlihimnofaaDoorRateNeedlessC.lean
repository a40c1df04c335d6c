/- RateNeedless answers true for every input, as its tied card says: under the conditions of the card (Rows, Cards, Tie), no more. Part 3 of 5: by one AI agent and its programs; no person has read it. -/
import Derived.Test.YtmnemlihimnofaaDoorRateNeedlessA
import Derived.Test.YtmnemlihimnofaaDoorRateNeedlessB
import Derived.Laws.StructEq
import Derived.Lib.MinMax
import Derived.ProofKit
import Derived.Deep.Slices
import Derived.LaidMore
import Derived.OpenShut
import Derived.Stop.Joined
import Derived.WideKeyArgs
import Derived.Deep.OwnRows
import Derived.Sort.Grow
import Derived.Lib.SlicesCompact
import Derived.Test.YtmnemlihimnofaaDoorProg
import Derived.KernelRfl
import Derived.Test.YtmnemlihimnofaaDoorRows
set_option linter.unusedSimpArgs false
set_option linter.unusedVariables false
set_option linter.all false

namespace Go.Pv
section
variable {P : Program} {G : List (Nat × PD)} {ro : Option Nat} {N : Nat} {σ τ : St} {w w' : World} {X : Nat → Prop} {φ φ' : Nm} {H H' : Heap} {o : Oper} {K : St → Prop} {ops : Array Oper} {B : Base P} {a a' : Act}
mutual
theorem refsIn_of : ∀ {p : PV}, (∀ r ∈ rowsOf p, (hget H r).isSome = true) → refsIn H p
  | .ptr r _ _, h => by simp only [refsIn]; exact h r (by simp [rowsOf])
  | .slc r _ _, h => by simp only [refsIn]; exact h r (by simp [rowsOf])
  | .func _ l, h => by simp only [refsIn]; exact refsInL_of (fun r hr => h r (by simpa [rowsOf] using hr))
  | .agg l, h => by simp only [refsIn]; exact refsInL_of (fun r hr => h r (by simpa [rowsOf] using hr))
  | .tuple l, h => by simp only [refsIn]; exact refsInL_of (fun r hr => h r (by simpa [rowsOf] using hr))
  | .any, _ => by simp only [refsIn]
  | .d _, _ => by simp only [refsIn]
  | .b _, _ => by simp only [refsIn]
  | .dptr .., _ => by simp only [refsIn]
  | .bptr .., _ => by simp only [refsIn]
  | .glob _, _ => by simp only [refsIn]
theorem refsInL_of : ∀ {l : List PV}, (∀ r ∈ rowsOfL l, (hget H r).isSome = true) → refsInL H l
  | [], _ => by simp only [refsInL]
  | p :: l, h => by
    simp only [refsInL]
    exact ⟨refsIn_of (fun r hr => h r (by simp [rowsOfL, hr])), refsInL_of (fun r hr => h r (by simp [rowsOfL, hr]))⟩
end
theorem rowsOfL_all : ∀ {ps : List PV}, (∀ i (hi : i < ps.length), ∀ r ∈ rowsOf ps[i], (hget H r).isSome = true) → ∀ r ∈ rowsOfL ps, (hget H r).isSome = true := by
  intro ps
  induction ps with
  | nil => intro _ r hr; simp [rowsOfL] at hr
  | cons p l ih =>
    intro h r hr
    simp only [rowsOfL, List.mem_append] at hr
    rcases hr with hr | hr
    · exact h 0 (by simp) r hr
    · exact ih (fun i hi => h (i + 1) (by simpa using hi)) r hr
theorem Rep.refs (hr : Rep G B N σ a w φ) : ∀ s y, hget σ.heap s = some y → refsInL σ.heap y.els := by
  intro s y hy
  refine refsInL_of fun r hrr => ?_
  cases hφ : φ s with
  | none => rw [hr.heap.void s y hy hφ] at hrr; simp [rowsOfL] at hrr
  | some b =>
    obtain ⟨c, C, _, _, h3⟩ := (hr.heap.rows s y b hy hφ).here
    exact rowsOfL_all (fun i hi => by obtain ⟨v, h4, _⟩ := h3 i hi; exact h4.rows) r hrr
theorem Dfr.refs {m : Nat → Prop} {ds : List Deferred} {ps : List PV} (h : Dfr m w X φ H ds ps) : refsInL H ps := by
  induction h with
  | nil => simp only [refsInL]
  | fn h1 h2 h3 _ ih => simp only [refsInL]; exact ⟨refsIn_of h3.rows, ih⟩
  | mark _ _ _ _ _ ih => exact ih
theorem Rep.forget (hr0 : Rep G B N σ a w φ) {r n : Nat} {row : Row} {dst : Option Tmp} {v : PV} (hr : Rep G B N (({ σ with heap := hput σ.heap r row } : St).put dst (.slc r 0 n)) a' w' φ') (hn : hget σ.heap r = none)
    (hd : dstOk N dst) (hf : frzT (hput σ.heap r row) (.slc r 0 n) = some v) : Rep G B N (σ.put dst v) a' w' φ' := by
  have hle : ∀ s y, hget σ.heap s = some y → hget (hput σ.heap r row) s = some y := fun s y h => by
    rw [hget_hput, if_neg (fun e => by subst e; rw [hn] at h; cases h)]; exact h
  have hheap : ((({ σ with heap := hput σ.heap r row } : St).put dst (.slc r 0 n))).heap = hput σ.heap r row := by cases dst <;> rfl
  have hgh : ((({ σ with heap := hput σ.heap r row } : St).put dst (.slc r 0 n))).gh = σ.gh := by cases dst <;> rfl
  have hdfr : ((({ σ with heap := hput σ.heap r row } : St).put dst (.slc r 0 n))).dfr = σ.dfr := by cases dst <;> rfl
  have hsit := hr.sit
  rw [hheap, hgh] at hsit
  have hs := hsit.less hle hr0.refs
  have hd' := hr.dfr
  rw [hheap, hgh, hdfr] at hd'
  refine Rep.of_sit (by cases dst <;> exact hs) hr.size (fun t => ?_) (by cases dst <;> exact hd'.less hle hr0.dfr.refs)
  have he := hr.env t
  rw [hheap] at he
  have hh2 : (σ.put dst v).heap = σ.heap := by cases dst <;> rfl
  rw [hh2]
  cases dst with
  | none => exact he.less hle (refsIn_of (hr0.env t).rows)
  | some d =>
    simp only [St.put, eget_eput] at he ⊢
    split at he
    · rename_i h; rw [if_pos h]
      exact frzT_in hsit.heap hle he (fun s hs => by simp only [rowsOf, List.mem_singleton] at hs; subst hs; exact hn) hf
    · rename_i h; rw [if_neg h]
      exact he.less hle (refsIn_of (hr0.env t).rows)
def litO (P : Program) (σ : St) (op : Op) : Option PV :=
  match op with
  | .buildSlice t len parts => match sliceElem P t with
    | some (_, z) => if zeroOk z = true ∧ inOrder 0 parts.toList = true ∧ parts.toList.length = len ∧ sizesOk z.size (evalL σ (parts.toList.map (·.2))) = true ∧ len * z.size ≤ 16777216 then
        (allD (evalL σ (parts.toList.map (·.2)))).map fun l => .d (.imm z.size l) else none
    | none => none
  | _ => none
theorem evalL_len (σ : St) : ∀ l : List Operand, (evalL σ l).length = l.length
  | [] => rfl
  | x :: l => by simp [evalL, evalL_len σ l]
theorem OpT.litD {v : PV} (h : litO P σ o.op = some v) (hd : dstOk N o.dst) (hK : K (σ.put o.dst v)) : OpT P G ro N o σ K := by
  unfold litO at h
  split at h <;> try (simp at h; done)
  rename_i t len parts ho
  split at h <;> try (simp at h; done)
  rename_i e z hse
  split at h <;> try (simp at h; done)
  rename_i hc
  obtain ⟨h1, h2, h3, h4, h5⟩ := hc
  simp only [Option.map_eq_some_iff] at h
  obtain ⟨l, hl, rfl⟩ := h
  obtain ⟨y, hy, hde, he⟩ := sliceElem_parts hse
  obtain ⟨zv, h6, h7, h8⟩ := zeroOk_some h1
  intro B hro a w φ hr next Q hn
  refine OpT.buildSlice (K := fun τ => τ = (({ σ with heap := hput σ.heap (fresh σ.heap) { e, k := z.size, els := evalL σ (parts.toList.map (·.2)) } } : St).put o.dst (.slc (fresh σ.heap) 0 len))) ho hy hde he h6 h7 h8 h2 h3 h4 h5 hd (hget_fresh _) (fresh_ge _) rfl B hro a w φ hr next Q ?_
  rintro τ a' w' φ' rfl hr'
  refine hn _ _ _ φ' hK (hr.forget hr' (hget_fresh _) hd ?_)
  have hlen : l.length = len := by
    have := congrArg List.length (allD_some _ _ hl)
    simp only [List.length_map, evalL_len] at this
    rw [← h3]; simpa using this.symm
  simp only [frzT, frz, hget_hput, if_true, hl, Option.map_some, List.drop_zero]
  rw [List.take_of_length_le (by omega)]
def vcStepL (P : Program) (N : Nat) (o : Oper) (σ : St) (K : St → Prop) : Prop :=
  dstOk N o.dst ∧ match litO P σ o.op with
    | some v => K (σ.put o.dst v)
    | none => False
def vcOpL (P : Program) (N : Nat) (ds : List (Option Tmp)) (o : Oper) (σ : St) (K : St → Prop) : Prop :=
  match o.guard with
  | none => vcStepL P N o σ K
  | some (j, want) => match gval σ ds j with
    | some b => (b = want → vcStepL P N o σ K) ∧ (b ≠ want → dstOk N o.dst ∧ K (σ.put o.dst (.tuple [])))
    | none => gnone σ ds j = true ∧ dstOk N o.dst ∧ K (σ.put o.dst (.tuple []))
theorem OpT.vcL (h : vcStepL P N o σ K) : OpT P G ro N o σ K := by
  obtain ⟨hd, h⟩ := h
  split at h
  · rename_i v hv; exact OpT.litD hv hd h
  · exact h.elim
theorem AOps.consL {rest : List Oper} {Q : St → Prop} (h : ∀ K : St → Prop, (∀ σ, AOps P G ro N ops rest σ Q → K σ) → vcOpL P N (dsts ops) o σ K) : AOps P G ro N ops (o :: rest) σ Q := by
  have h := h _ (fun _ h => h)
  unfold vcOpL at h
  split at h
  · rename_i hg; exact AOps.step hg (OpT.vcL h)
  · rename_i j want hg
    split at h
    · rename_i b hb
      by_cases hbw : b = want
      · exact AOps.guardedU hg hb (fun hb => OpT.vcL (h.1 hb)) (h.1 hbw).1 (fun hb => (h.2 hb).2)
      · exact AOps.guardedU hg hb (fun hb => OpT.vcL (h.1 hb)) (h.2 hbw).1 (fun hb => (h.2 hb).2)
    · exact AOps.skip hg h.1 h.2.1 h.2.2
theorem litO_agree {σ' : St} {op : Op} (h : ∀ x ∈ opnds op, σ'.eval x = σ.eval x) : litO P σ' op = litO P σ op := by
  cases op <;> try rfl
  case buildSlice t len parts =>
    simp only [litO]
    rw [evalL_agree (σ := σ) (σ' := σ') (l := parts.toList.map (·.2)) (by simpa [opnds] using h)]
theorem OpD.lit {xs : Exc} {v : PV} (h : litO P σ o.op = some v) (hd : dstOk N o.dst) (hx : exE xs (dstEff o.dst v)) :
    OpD P G ro N xs o σ (some (tmpKeys (opnds o.op), dstKeys o.dst)) (σ.put o.dst v) := by
  refine ⟨dstEff o.dst v, fun k hk => by rw [ekeys_dst] at hk; exact hk, hx, fun σ' hd' hs _ => ?_, look_put _ _ _, St.put_rest _ _ _⟩
  have h1 := eval_agree (σ := σ) (σ' := σ') (l := opnds o.op) fun k hk => hs k hk
  exact OpT.litD (by rw [litO_agree h1]; exact h) hd ⟨by rw [St.put_rest]; exact hd', look_put _ _ _⟩
def dvStepL (P : Program) (N : Nat) (xs : Exc) (o : Oper) (σ : St) (K : Foot → St → Prop) : Prop :=
  dstOk N o.dst ∧ match litO P σ o.op with
  | some v => exE xs (dstEff o.dst v) ∧ K (some (tmpKeys (opnds o.op), dstKeys o.dst)) (σ.put o.dst v)
  | none => False
theorem DOps.consL {xs : Exc} {rest : List Oper} {acc : List Foot} {Q : St → Prop} (hg : o.guard = none) (h : ∀ K : Foot → St → Prop, (∀ f σ1, DOps P G ro N xs ops Q rest (acc ++ [f]) σ1 → K f σ1) → dvStepL P N xs o σ K) :
    DOps P G ro N xs ops Q (o :: rest) acc σ := by
  have h := h (fun f σ1 => DOps P G ro N xs ops Q rest (acc ++ [f]) σ1) (fun _ _ h => h)
  obtain ⟨hd, h⟩ := h
  split at h
  · rename_i v hv
    exact .step (DStep.plain hg (OpD.lit hv hd h.1)) h.2
  · exact h.elim
def heapCv : Heap → Heap → Prop
  | [], _ => True
  | (r, x) :: l, h => (∃ y, hget h r = some y ∧ y.e = x.e ∧ y.k = x.k ∧ leVL y.els x.els) ∧ heapCv l h
theorem heapCv_get {g : Heap} : ∀ {l : Heap}, heapCv l g → ∀ r x, hget l r = some x → ∃ y, hget g r = some y ∧ y.e = x.e ∧ y.k = x.k ∧ leVL y.els x.els
  | [], _, _, _, h => by simp [hget] at h
  | (s, y) :: l, h, r, x, hx => by
    simp only [hget] at hx
    split at hx
    · rename_i e; subst e; simp only [Option.some.injEq] at hx; subst hx; exact h.1
    · exact heapCv_get h.2 r x hx
def hconv (l : Heap) : Heap → Heap
  | [] => []
  | (r, y) :: g => (r, match hget l r with | some x => { y with els := x.els } | none => y) :: hconv l g
theorem hget_hconv (l : Heap) : ∀ (g : Heap) (r : Nat), hget (hconv l g) r = (hget g r).map fun y => match hget l r with | some x => { y with els := x.els } | none => y
  | [], r => rfl
  | (s, y) :: g, r => by
    simp only [hconv, hget]
    split
    · rename_i e; subst e; rfl
    · exact hget_hconv l g r
theorem Sub.rows (L : Heap) (h : heapCv L σ.heap) : Sub G N σ { σ with heap := hconv L σ.heap } := by
  intro P B a w φ hr
  have hgt : ∀ r y, hget σ.heap r = some y → ∃ x, hget (hconv L σ.heap) r = some x ∧ x.e = y.e ∧ x.k = y.k ∧ x.els.length = y.els.length ∧ leVL y.els x.els := fun r y hy => by
    rw [hget_hconv, hy, Option.map_some]
    cases h2 : hget L r with
    | none => exact ⟨y, rfl, rfl, rfl, rfl, leVL_refl _⟩
    | some x =>
      obtain ⟨y', h3, h4, h5, h6⟩ := heapCv_get h r x h2
      rw [hy] at h3; cases h3
      exact ⟨_, rfl, rfl, rfl, (leVL_get h6).1.symm, h6⟩
  have hget' : ∀ r x, hget (hconv L σ.heap) r = some x → ∃ y, hget σ.heap r = some y ∧ y.e = x.e ∧ y.k = x.k ∧ x.els.length = y.els.length ∧ leVL y.els x.els := fun r x hx => by
    have hx' := hx
    rw [hget_hconv, Option.map_eq_some_iff] at hx'
    obtain ⟨y, hy, _⟩ := hx'
    obtain ⟨x', h1, h2, h3, h4, h5⟩ := hgt r y hy
    rw [hx] at h1; cases h1
    exact ⟨y, hy, h2.symm, h3.symm, h4, h5⟩
  have hrow : ∀ b, rowB φ (hconv L σ.heap) b ↔ rowB φ σ.heap b := fun b =>
    ⟨fun ⟨r, x, h1, h2⟩ => by obtain ⟨y, h3, _⟩ := hget' r x h1; exact ⟨r, y, h3, h2⟩, fun ⟨r, y, h1, h2⟩ => by obtain ⟨x, h3, _⟩ := hgt r y h1; exact ⟨r, x, h3, h2⟩⟩
  have hown : ∀ b, own φ (hconv L σ.heap) b ↔ own φ σ.heap b := fun b => or_congr (hrow b) Iff.rfl
  have hext : Ext w B.X φ σ.heap w φ (hconv L σ.heap) :=
    ⟨fun r y hy => by obtain ⟨x, h1, h2, h3, h4, _⟩ := hgt r y hy; exact ⟨x, h1, h3, h4, rfl⟩, fun b hb => ⟨hb.1, hb.2.1, fun ho => hb.2.2 ((hown b).1 ho)⟩, fun b hb => ⟨hb.1, fun ho => hb.2 ((hown b).1 ho)⟩, fun _ _ => rfl, fun r x b _ _ c e f hh => ⟨c, e, f, hh, rfl⟩⟩
  refine ⟨φ, Rep.of_sit ⟨⟨fun r x b hx hb => ?_, fun r x hx hφ => ?_, fun r x hx => ?_, fun r s x y b hx hy hb hb' => ?_, fun b hT => ⟨(hr.heap.far b hT).1, (hr.heap.far b hT).2.1, fun ho => (hr.heap.far b hT).2.2 ((hrow b).1 ho)⟩⟩, hr.keeps, fun r x b hx hb => ?_, fun r x hx hp => ?_, fun r x b hx hp hb => ?_, ?_, hr.tnew, ?_⟩ hr.size (fun t => (hr.env t).ext hext) ?_⟩
  · obtain ⟨y, h1, h2, h3, h4, h5⟩ := hget' r x hx
    have hro := (hr.heap.rows r y b h1 hb).ext hext rfl
    obtain ⟨c, C, h6, h7, h8⟩ := hro.here
    refine ⟨⟨c, C, by rw [← h2]; exact h6, by rw [← h3, h4]; exact h7, fun i hi => ?_⟩, hro.free⟩
    obtain ⟨v, h9, h10, h11⟩ := h8 i (h4 ▸ hi)
    refine ⟨v, h9.le ((leVL_get h5).2 i (h4 ▸ hi) hi), by rw [← h3]; exact h10, by rw [← h3]; exact h11⟩
  · obtain ⟨y, h1, h2, h3, h4, h5⟩ := hget' r x hx
    have := hr.heap.void r y h1 hφ
    rw [this] at h4
    simpa using h4
  · obtain ⟨y, h1, h2, h3, h4, h5⟩ := hget' r x hx
    rw [← h3]; exact hr.heap.pos r y h1
  · obtain ⟨x', h1, _⟩ := hget' r x hx
    obtain ⟨y', h2, _⟩ := hget' s y hy
    exact hr.heap.inj r s x' y' b h1 h2 hb hb'
  · obtain ⟨y, h1, _⟩ := hget' r x hx
    exact hr.new r y b h1 hb
  · obtain ⟨y, h1, _⟩ := hget' r x hx
    exact hr.pins r y h1 hp
  · obtain ⟨y, h1, _⟩ := hget' r x hx
    exact hr.psz r y b h1 hp hb
  · exact hr.glob.ext hext (fun g y hm => by obtain ⟨_, _, _, _, _, h2, _⟩ := hr.glob g y hm; exact fun ho => h2 ((hown g).1 ho))
  · exact J_step (w := w) (φ := φ) (H := σ.heap) hr.inv rfl rfl rfl rfl (Nat.le_refl _) (fun _ _ _ => rfl) (fun b hb => .inl ((hrow b).1 hb))
  · exact hr.dfr.ext hext
theorem Sub.cvh (h : heapCv τ.heap σ.heap) (h2 : heapLe τ.heap (hconv τ.heap σ.heap)) (h1 : envCv (hconv τ.heap σ.heap) τ.heap σ.env τ.env) (h4 : heapRefs τ.heap τ.heap) (h5 : σ.dfr = τ.dfr ∧ refsInL τ.heap τ.dfr ∧ σ.gh = τ.gh) : Sub G N σ τ :=
  (Sub.rows τ.heap h).trans (Sub.cv h2 h1 h4 h5)
theorem leVL_dl : ∀ {l m : List PD}, leDL l m → leVL (dl l) (dl m)
  | [], [], _ => by simp only [dl, List.map_nil, leVL]
  | x :: l, y :: m, h => by
    simp only [leDL] at h
    simp only [dl_cons, leVL, leV]
    exact ⟨h.1, leVL_dl h.2⟩
  | [], _ :: _, h => by simp [leDL] at h
  | _ :: _, [], h => by simp [leDL] at h
theorem leDL_rep {x y : PD} (h : leD x y) : ∀ n : Nat, leDL (List.replicate n x) (List.replicate n y)
  | 0 => by simp only [List.replicate_zero, leDL]
  | n + 1 => by simp only [List.replicate_succ, leDL]; exact ⟨h, leDL_rep h n⟩
theorem leVL_rep {α : Type} {f : α → PD} {x : PD} {z : α} (h : leD x (f z)) (n : Nat) : leVL (dl (List.replicate n x)) (dl (lenc f (List.replicate n z))) := by
  rw [← lenc_rep]; exact leVL_dl (leDL_rep h n)
theorem row_refs (H : Heap) (l : List PD) : refsInL H (dl l) := by rw [dl_refs]; trivial
theorem frz_row {α : Type} {r e k n : Nat} {f : α → PD} {L : List α} (h : hget H r = some ⟨e, k, dl (lenc f L)⟩) (hn : n = L.length) : frzT H (.slc r 0 n) = some (.d (.imm k (lenc f L))) := by
  subst hn
  simp only [frzT, frz, h, dl_allD, Option.map_some, List.drop_zero, lenc_take, List.take_length]
theorem rows_slc {r lo n : Nat} (h : hget H' r = none) : ∀ s ∈ rowsOf (.slc r lo n), hget H' s = none := by
  intro s hs
  simp only [rowsOf, List.mem_singleton] at hs
  subst hs; exact h
theorem le_nil {α : Type} (k : Nat) (f : α → PD) : leV (.d .nilslice) (.d (.imm k (lenc f []))) := by simp only [leV, leD, lenc_nil]
theorem slcl {r n m : Nat} (h : n = m) : PV.slc r 0 n = .slc r 0 m := by rw [h]
theorem slcle {r n m : Nat} (h : n = m) : leV (PV.slc r 0 n) (.slc r 0 m) := by rw [h]; exact leV_refl _
def lstD (k : Nat) (l : List PD) : PD := match l with
  | [] => .nilslice
  | x :: l => .imm k (x :: l)
theorem lstD_le (k : Nat) (l : List PD) : leD (lstD k l) (.imm k l) := by
  cases l with
  | nil => simp only [lstD, leD]
  | cons x l => exact leD_refl _
end
attribute [go_sem] vcOpL vcStepL litO dvStepL dl_cons dl_nil
end Go.Pv

namespace Go.Pv
def partD (P : Program) (t : TypeId) (xs : List PD) (off : Nat) : Option PD :=
  match elemLoad P t (.d (.agg xs)) off with
  | some (.d x) => some x
  | _ => none
def eqFs (P : Program) (E : TypeId → PD → PD → Option Bool) (xs ys : List PD) : List Field → Option Bool
  | [] => some true
  | f :: fs =>
    if (f.name == "_") = true then eqFs P E xs ys fs
    else match partD P f.type xs f.offset, partD P f.type ys f.offset with
      | some a, some b => match E f.type a b, eqFs P E xs ys fs with
        | some r, some q => some (r && q)
        | _, _ => none
      | _, _ => none
def eqD (P : Program) : Nat → TypeId → PD → PD → Option Bool
  | 0, _, _, _ => none
  | d + 1, t, x, y => match tyOf P t with
    | none => none
    | some z => match z.desc with
      | .int _ => match x, y with
        | .int k a, .int k' b => if k = k' then some (a == b) else none
        | _, _ => none
      | .bool => match x, y with
        | .bool a, .bool b => some (a == b)
        | _, _ => none
      | .string => match x, y with
        | .str a, .str b => some (a == b)
        | _, _ => none
      | .struct fs => match x, y with
        | .agg xs, .agg ys => if P.stoodInHeld t = false then eqFs P (eqD P d) xs ys fs.toList else none
        | _, _ => none
      | _ => none
theorem eqD_s (P : Program) (d : Nat) (t : TypeId) (x y : PD) : eqD P (d + 1) t x y = match tyOf P t with
    | none => none
    | some z => match z.desc with
      | .int _ => match x, y with
        | .int k a, .int k' b => if k = k' then some (a == b) else none
        | _, _ => none
      | .bool => match x, y with
        | .bool a, .bool b => some (a == b)
        | _, _ => none
      | .string => match x, y with
        | .str a, .str b => some (a == b)
        | _, _ => none
      | .struct fs => match x, y with
        | .agg xs, .agg ys => if P.stoodInHeld t = false then eqFs P (eqD P d) xs ys fs.toList else none
        | _, _ => none
      | _ => none := rfl
def eqV (P : Program) (t : TypeId) (p q : PV) : Option Bool :=
  match p, q with
  | .d (.agg a), .d (.agg b) => if P.eqGuardType P.depth t = false then eqD P 8 t (.agg a) (.agg b) else none
  | _, _ => none
def maxO (lo : Bool) : List PV → Option PV
  | [.d (.int k a), .d (.int k' b)] => if k = k' then some (.d (.int k (if lo then min a b else max a b))) else none
  | _ => none
def xOp (P : Program) (σ : St) (op : Op) : Option PV :=
  match op with
  | .binOp .eql t x y _ => (eqV P t (σ.eval x) (σ.eval y)).map fun b => .d (.bool b)
  | .binOp .neq t x y _ => (eqV P t (σ.eval x) (σ.eval y)).map fun b => .d (.bool (!b))
  | .call c => match c.callee with
    | .builtin .max => maxO false (evalL σ c.args.toList)
    | .builtin .min => maxO true (evalL σ c.args.toList)
    | _ => none
  | _ => none
section
variable {P : Program} {G : List (Nat × PD)} {ro : Option Nat} {N : Nat} {σ τ : St} {w w' : World} {X : Nat → Prop} {φ φ' : Nm} {H H' : Heap} {o : Oper} {K : St → Prop} {ops : Array Oper} {B : Base P} {a a' : Act}
theorem partD_ok {t : TypeId} {xs : List PD} {off : Nat} {x : PD} {vs : Array Value} (h : partD P t xs off = some x) (hv : RepV w X φ H (.agg vs) (.d (.agg xs))) :
    ∃ z, (part t vs off).run P w = .ok z w ∧ RepV w X φ H z (.d x) := by
  unfold partD at h
  split at h <;> simp only [Option.some.injEq, reduceCtorEq] at h
  rename_i y hy; subst h
  obtain ⟨vs', z, h1, h2, h3⟩ := elemLoad_part (P := P) rfl hy hv
  cases h1
  exact ⟨z, h2, h3⟩
theorem eqFs_ok {E : TypeId → PD → PD → Option Bool} {n : Nat} (hE : ∀ t x y r, E t x y = some r → ∀ u v, RepV w X φ H u (.d x) → RepV w X φ H v (.d y) → (Op.equalIn n t u v).run P w = .ok r w) {xs ys : List PD} {us vs : Array Value} (hu : RepV w X φ H (.agg us) (.d (.agg xs))) (hv : RepV w X φ H (.agg vs) (.d (.agg ys))) :
    ∀ {fs : List Field} {r : Bool}, eqFs P E xs ys fs = some r → (Op.eqFields n us vs fs).run P w = .ok r w := by
  intro fs
  induction fs with
  | nil =>
    intro r h
    simp only [eqFs, Option.some.injEq] at h
    subst h; rfl
  | cons f fs ih =>
    intro r h
    simp only [eqFs] at h
    split at h
    · rename_i hn
      have hn : f.name = "_" := by simpa using hn
      simp only [Op.eqFields, hn, ne_eq, not_true_eq_false, if_false]
      exact ih h
    · rename_i hn
      have hn : f.name ≠ "_" := by simpa using hn
      split at h <;> try (simp at h; done)
      rename_i p q hp hq
      split at h <;> simp only [Option.some.injEq, reduceCtorEq] at h
      rename_i r1 r2 h1 h2; subst h
      obtain ⟨u, e1, e2⟩ := partD_ok (P := P) hp hu
      obtain ⟨v, e3, e4⟩ := partD_ok (P := P) hq hv
      have e5 := hE _ _ _ _ h1 _ _ e2 e4
      simp only [Op.eqFields, hn, ne_eq, not_false_eq_true, if_true, Sem.run_bind, e1, e3, e5, Result.andThen_ok]
      cases r1
      · simp
      · simp only [Bool.not_true, Bool.false_eq_true, if_false, Bool.true_and]
        exact ih h2
theorem eqD_ok (m : Nat) : ∀ (d : Nat) (t : TypeId) (x y : PD) (r : Bool), eqD P d t x y = some r → ∀ u v, RepV w X φ H u (.d x) → RepV w X φ H v (.d y) → (Op.equalIn (m + d) t u v).run P w = .ok r w := by
  intro d
  induction d with
  | zero => intro t x y r h; simp [eqD] at h
  | succ d ih =>
    intro t x y r h u v hu hv
    unfold eqD at h
    split at h <;> try (simp at h; done)
    rename_i z hz
    have hun := (tyOf_parts hz).1
    rw [show m + (d + 1) = (m + d) + 1 from rfl]
    split at h <;> try (simp at h; done)
    · rename_i k hd
      split at h <;> try (simp at h; done)
      split at h <;> simp only [Option.some.injEq, reduceCtorEq] at h
      rename_i hk; subst hk; subst h
      rw [repV_int hu, repV_int hv]
      exact run_equalIn_int w (m + d) t _ k _ _ (by rw [hun, hd])
    · rename_i hd
      split at h <;> simp only [Option.some.injEq, reduceCtorEq] at h
      subst h
      rw [repV_bool hu, repV_bool hv]
      exact run_equalIn_bool w (m + d) t _ _ (by rw [hun, hd])
    · rename_i hd
      split at h <;> simp only [Option.some.injEq, reduceCtorEq] at h
      subst h
      rw [repV_str hu, repV_str hv, beq_toListBytes]
      exact run_equalIn_string w (m + d) t _ _ (by rw [hun, hd])
    · rename_i fs hd
      split at h <;> try (simp at h; done)
      rename_i xs ys
      split at h <;> try (simp at h; done)
      rename_i hst
      obtain ⟨us, rfl, _⟩ := repD_agg_size (repV_d hu)
      obtain ⟨vs, rfl, _⟩ := repD_agg_size (repV_d hv)
      have hf : P.fieldsOf t = fs := by simp only [Program.fieldsOf, hun, hd]
      rw [run_equalIn_struct w (m + d) t us vs (by rw [hf, hun, hd]) hst, hf]
      exact eqFs_ok ih hu hv h
theorem eqV_ok {t : TypeId} {p q : PV} {r : Bool} (h : eqV P t p q = some r) {u v : Value} (hu : RepV w X φ H u p) (hv : RepV w X φ H v q) :
    ∃ us vs, u = .agg us ∧ v = .agg vs ∧ P.eqGuardType P.depth t = false ∧ (Op.equalIn 10000 t u v).run P w = .ok r w := by
  unfold eqV at h
  split at h <;> try (simp at h; done)
  split at h <;> try (simp at h; done)
  rename_i hg
  have := eqD_ok 9992 8 _ _ _ _ h _ _ hu hv
  obtain ⟨us, rfl, _⟩ := repD_agg_size (repV_d hu)
  obtain ⟨vs, rfl, _⟩ := repD_agg_size (repV_d hv)
  exact ⟨us, vs, rfl, rfl, hg, this⟩
theorem evalL_args (hr : Rep G B N σ a w φ) {c : Call} {p q : PV} (h : evalL σ c.args.toList = [p, q]) : ∃ x y, c.args = #[x, y] ∧ σ.eval x = p ∧ σ.eval y = q := by
  rcases hc : c.args with ⟨l⟩
  rw [hc] at h
  match l, h with
  | [x, y], h => simp [evalL] at h; exact ⟨x, y, rfl, h.1, h.2⟩
  | [], h => simp [evalL] at h
  | [_], h => simp [evalL] at h
  | _ :: _ :: _ :: _, h => simp [evalL] at h
theorem xOp_ok (hr : Rep G B N σ a w φ) {o : Oper} {v : PV} (h : xOp P σ o.op = some v) (ro : Option Nat) : ∃ u, (o.semAt ro a.eval).run P w = .ok (.value u) w ∧ RepV w B.X φ σ.heap u v := by
  rw [Oper.semAt_eq _ _ _ (fun c hc => by rw [hc] at h; simp [xOp] at h)]
  unfold execOp
  unfold xOp at h
  split at h <;> (try (simp at h; done)) <;> rename_i ho <;> simp only [ho]
  · rename_i t x y t2
    simp only [Option.map_eq_some_iff] at h
    obtain ⟨b, hb, rfl⟩ := h
    obtain ⟨us, vs, hu, hv, hg, he⟩ := eqV_ok (P := P) hb (hr.eval x) (hr.eval y)
    refine ⟨.bool b, run_v ?_, .d (.bool _)⟩
    rw [Sem.run_bind, hu, hv, run_eqGuard_agg w .eql t x y us vs hg]
    rw [hu, hv] at he
    show (binOp .eql t (.agg us) (.agg vs)).run P w = _
    rw [run_eql_struct, he]; rfl
  · rename_i t x y t2
    simp only [Option.map_eq_some_iff] at h
    obtain ⟨b, hb, rfl⟩ := h
    obtain ⟨us, vs, hu, hv, hg, he⟩ := eqV_ok (P := P) hb (hr.eval x) (hr.eval y)
    refine ⟨.bool (!b), run_v ?_, .d (.bool _)⟩
    rw [Sem.run_bind, hu, hv, run_eqGuard_agg w .neq t x y us vs hg]
    rw [hu, hv] at he
    show (binOp .neq t (.agg us) (.agg vs)).run P w = _
    rw [run_neq_struct, he]; rfl
  · rename_i c
    have key : ∀ {lo : Bool} {v : PV}, maxO lo (evalL σ c.args.toList) = some v → ∃ k n m, v = .d (.int k (if lo then min n m else max n m)) ∧ ∃ x y, c.args = #[x, y] ∧ a.eval x = .int k n ∧ a.eval y = .int k m := by
      intro lo v h
      unfold maxO at h
      split at h <;> try (simp at h; done)
      rename_i k n k' m he
      split at h <;> simp only [Option.some.injEq, reduceCtorEq] at h
      rename_i hk; subst hk; subst h
      obtain ⟨x, y, h1, h2, h3⟩ := evalL_args hr he
      have hx := hr.eval x; have hy := hr.eval y
      rw [h2] at hx; rw [h3] at hy
      exact ⟨k, n, m, rfl, x, y, h1, repV_int hx, repV_int hy⟩
    split at h <;> try (simp at h; done)
    · rename_i hc
      obtain ⟨k, n, m, rfl, x, y, h1, h2, h3⟩ := key h
      refine ⟨.int k (max n m), ?_, .d (.int _ _)⟩
      simp only [resolve, hc, h1, Sem.run_bind, Sem.run_pure, Result.andThen, invoke, builtin, List.map_toArray, List.map_cons, List.map_nil, h2, h3, Go.Lib.run_max_ints]
    · rename_i hc
      obtain ⟨k, n, m, rfl, x, y, h1, h2, h3⟩ := key h
      refine ⟨.int k (min n m), ?_, .d (.int _ _)⟩
      simp only [resolve, hc, h1, Sem.run_bind, Sem.run_pure, Result.andThen, invoke, builtin, List.map_toArray, List.map_cons, List.map_nil, h2, h3, Go.Lib.run_min_ints]
theorem OpT.x {v : PV} (h : xOp P σ o.op = some v) (hd : dstOk N o.dst) (hK : K (σ.put o.dst v)) : OpT P G ro N o σ K := by
  intro B hro a w φ hr next Q hn
  obtain ⟨u, h1, h2⟩ := xOp_ok hr h ro
  exact wpIn_value h1 (hn _ _ _ φ hK (hr.put hd h2))
theorem xOp_agree {σ' : St} {op : Op} (h : ∀ x ∈ opnds op, σ'.eval x = σ.eval x) : xOp P σ' op = xOp P σ op := by
  cases op <;> try rfl
  case binOp bop t x y z =>
    simp only [opnds, List.mem_cons, List.not_mem_nil, or_false, forall_eq_or_imp, forall_eq] at h
    cases bop <;> try rfl
    all_goals simp only [xOp, h.1, h.2]
  case call c =>
    simp only [xOp]
    have : evalL σ' c.args.toList = evalL σ c.args.toList := evalL_agree fun x hx => h x (by
      simp only [opnds]
      cases c.callee <;> simp_all)
    rw [this]
theorem OpD.x {xs : Exc} {v : PV} (h : xOp P σ o.op = some v) (hd : dstOk N o.dst) (hx : exE xs (dstEff o.dst v)) :
    OpD P G ro N xs o σ (some (tmpKeys (opnds o.op), dstKeys o.dst)) (σ.put o.dst v) := by
  refine ⟨dstEff o.dst v, fun k hk => by rw [ekeys_dst] at hk; exact hk, hx, fun σ' hd' hs _ => ?_, look_put _ _ _, St.put_rest _ _ _⟩
  have h1 := eval_agree (σ := σ) (σ' := σ') (l := opnds o.op) fun k hk => hs k hk
  exact OpT.x (by rw [xOp_agree h1]; exact h) hd ⟨by rw [St.put_rest]; exact hd', look_put _ _ _⟩
def vcStepX (P : Program) (N : Nat) (o : Oper) (σ : St) (K : St → Prop) : Prop :=
  dstOk N o.dst ∧ match xOp P σ o.op with
    | some v => K (σ.put o.dst v)
    | none => False
def vcOpX (P : Program) (N : Nat) (ds : List (Option Tmp)) (o : Oper) (σ : St) (K : St → Prop) : Prop :=
  match o.guard with
  | none => vcStepX P N o σ K
  | some (j, want) => match gval σ ds j with
    | some b => (b = want → vcStepX P N o σ K) ∧ (b ≠ want → dstOk N o.dst ∧ K (σ.put o.dst (.tuple [])))
    | none => gnone σ ds j = true ∧ dstOk N o.dst ∧ K (σ.put o.dst (.tuple []))
theorem OpT.vcX (h : vcStepX P N o σ K) : OpT P G ro N o σ K := by
  obtain ⟨hd, h⟩ := h
  split at h
  · rename_i v hv; exact OpT.x hv hd h
  · exact h.elim
theorem AOps.consX {rest : List Oper} {Q : St → Prop} (h : ∀ K : St → Prop, (∀ σ, AOps P G ro N ops rest σ Q → K σ) → vcOpX P N (dsts ops) o σ K) : AOps P G ro N ops (o :: rest) σ Q := by
  have h := h _ (fun _ h => h)
  unfold vcOpX at h
  split at h
  · rename_i hg; exact AOps.step hg (OpT.vcX h)
  · rename_i j want hg
    split at h
    · rename_i b hb
      by_cases hbw : b = want
      · exact AOps.guardedU hg hb (fun hb => OpT.vcX (h.1 hb)) (h.1 hbw).1 (fun hb => (h.2 hb).2)
      · exact AOps.guardedU hg hb (fun hb => OpT.vcX (h.1 hb)) (h.2 hbw).1 (fun hb => (h.2 hb).2)
    · exact AOps.skip hg h.1 h.2.1 h.2.2
variable {xs : Exc}
theorem exE_tuple0 (dst : Option Tmp) : exE xs (dstEff dst (.tuple [])) := by
  cases dst with
  | none => trivial
  | some d =>
    refine ⟨?_, trivial⟩
    induction xs with
    | nil => trivial
    | cons x l ih => obtain ⟨r, S⟩ := x; exact ⟨.inr (by simp [Cont.rows, rowsOf, rowsOfL]), ih⟩
theorem DStep.noU {j : Nat} {want b : Bool} (hg : o.guard = some (j, want)) (hb : gval σ (dsts ops) j = some b) (hne : b ≠ want) (hd : dstOk N o.dst) :
    DStep P G ro N xs ops o σ (some (gkeys (dsts ops) o.guard, dstKeys o.dst)) (σ.put o.dst (.tuple [])) := by
  refine ⟨dstEff o.dst (.tuple []), fun k hk => by rw [ekeys_dst] at hk; exact hk, exE_tuple0 _, fun s' hs _ B hro a w hR next Q hn => ?_, look_put _ _ _, St.put_rest _ _ _⟩
  obtain ⟨σ', φ, hd', hl, hr⟩ := hR
  have hgv : gval σ' (dsts ops) j = some b := by
    rw [gval_look (σ := σ) (want := want) fun k hk => by rw [hl]; exact hs k (by rw [hg]; exact hk)]; exact hb
  have hy := gval_ok hr hgv
  have : (some b == some want) = false := by simp [hne]
  simp only [Region.wanted, hg, hy, this, Bool.false_eq_true, if_false]
  exact ⟨fun _ _ => trivial, hn _ _ ⟨σ'.put o.dst (.tuple []), φ, by rw [St.put_rest]; exact hd', by rw [look_put, hl], hr.put hd repV_undef⟩⟩
theorem gnone_look {σ' : St} {ds : List (Option Tmp)} {j : Nat} {want : Bool} (h : ∀ k ∈ gkeys ds (some (j, want)), σ'.look k = σ.look k) : gnone σ' ds j = gnone σ ds j := by
  unfold gnone
  simp only [gkeys] at h
  cases hds : ds[j]? with
  | none => rfl
  | some od =>
    cases od with
    | none => rfl
    | some d =>
      rw [hds] at h
      have := h (.t d) (by simp)
      simp only [St.look, Cont.v.injEq] at this
      simp only [this]
theorem DStep.skipU {j : Nat} {want : Bool} (hg : o.guard = some (j, want)) (hb : gnone σ (dsts ops) j = true) (hd : dstOk N o.dst) :
    DStep P G ro N xs ops o σ (some (gkeys (dsts ops) o.guard, dstKeys o.dst)) (σ.put o.dst (.tuple [])) := by
  refine ⟨dstEff o.dst (.tuple []), fun k hk => by rw [ekeys_dst] at hk; exact hk, exE_tuple0 _, fun s' hs _ B hro a w hR next Q hn => ?_, look_put _ _ _, St.put_rest _ _ _⟩
  obtain ⟨σ', φ, hd', hl, hr⟩ := hR
  have hgv : gnone σ' (dsts ops) j = true := by
    rw [gnone_look (σ := σ) (want := want) fun k hk => by rw [hl]; exact hs k (by rw [hg]; exact hk)]; exact hb
  have hy := gnone_ok hr hgv want
  simp only [Region.wanted, hg, hy, Bool.false_eq_true, if_false]
  exact ⟨fun _ _ => trivial, hn _ _ ⟨σ'.put o.dst (.tuple []), φ, by rw [St.put_rest]; exact hd', by rw [look_put, hl], hr.put hd repV_undef⟩⟩
def dgStep (N : Nat) (ds : List (Option Tmp)) (o : Oper) (σ : St) (S : (Foot → St → Prop) → Prop) (K : Foot → St → Prop) : Prop :=
  match o.guard with
  | none => S K
  | some (j, want) => match gval σ ds j with
    | some b => (b = want → S (fun f σ1 => K (f.plus (gkeys ds o.guard)) σ1)) ∧ (b ≠ want → dstOk N o.dst ∧ K (some (gkeys ds o.guard, dstKeys o.dst)) (σ.put o.dst (.tuple [])))
    | none => gnone σ ds j = true ∧ dstOk N o.dst ∧ K (some (gkeys ds o.guard, dstKeys o.dst)) (σ.put o.dst (.tuple []))
theorem DOps.guard {rest : List Oper} {acc : List Foot} {Q : St → Prop} {S : (Foot → St → Prop) → Prop} (hS : ∀ K, S K → OpX P G ro N xs o σ K)
    (h : ∀ K : Foot → St → Prop, (∀ f σ1, DOps P G ro N xs ops Q rest (acc ++ [f]) σ1 → K f σ1) → dgStep N (dsts ops) o σ S K) :
    DOps P G ro N xs ops Q (o :: rest) acc σ := by
  have h := h (fun f σ1 => DOps P G ro N xs ops Q rest (acc ++ [f]) σ1) (fun _ _ h => h)
  unfold dgStep at h
  split at h
  · rename_i hg
    obtain ⟨f, σ1, h1, h2⟩ := hS _ h
    exact .step (DStep.plain hg h1) h2
  · rename_i j want hg
    split at h
    · rename_i b hb
      by_cases hbw : b = want
      · subst hbw
        obtain ⟨f, σ1, h1, h2⟩ := hS _ (h.1 rfl)
        exact .step (DStep.yes hg hb h1) h2
      · obtain ⟨h1, h2⟩ := h.2 hbw
        exact .step (DStep.noU hg hb hbw h1) h2
    · exact .step (DStep.skipU hg h.1 h.2.1) h.2.2
theorem DOps.consU {rest : List Oper} {acc : List Foot} {Q : St → Prop} (h : ∀ K : Foot → St → Prop, (∀ f σ1, DOps P G ro N xs ops Q rest (acc ++ [f]) σ1 → K f σ1) → dgStep N (dsts ops) o σ (dvStep P G ro N xs o σ) K) :
    DOps P G ro N xs ops Q (o :: rest) acc σ := DOps.guard (fun _ => OpX.vc) h
theorem OpX.vcL {K : Foot → St → Prop} (h : dvStepL P N xs o σ K) : OpX P G ro N xs o σ K := by
  obtain ⟨hd, h⟩ := h
  split at h
  · rename_i v hv; exact ⟨_, _, OpD.lit hv hd h.1, h.2⟩
  · exact h.elim
def dvStepX (P : Program) (N : Nat) (xs : Exc) (o : Oper) (σ : St) (K : Foot → St → Prop) : Prop :=
  dstOk N o.dst ∧ match xOp P σ o.op with
  | some v => exE xs (dstEff o.dst v) ∧ K (some (tmpKeys (opnds o.op), dstKeys o.dst)) (σ.put o.dst v)
  | none => False
theorem OpX.vcX {K : Foot → St → Prop} (h : dvStepX P N xs o σ K) : OpX P G ro N xs o σ K := by
  obtain ⟨hd, h⟩ := h
  split at h
  · rename_i v hv; exact ⟨_, _, OpD.x hv hd h.1, h.2⟩
  · exact h.elim
theorem DOps.consLU {rest : List Oper} {acc : List Foot} {Q : St → Prop} (h : ∀ K : Foot → St → Prop, (∀ f σ1, DOps P G ro N xs ops Q rest (acc ++ [f]) σ1 → K f σ1) → dgStep N (dsts ops) o σ (dvStepL P N xs o σ) K) :
    DOps P G ro N xs ops Q (o :: rest) acc σ := DOps.guard (fun _ => OpX.vcL) h
theorem DOps.consX {rest : List Oper} {acc : List Foot} {Q : St → Prop} (h : ∀ K : Foot → St → Prop, (∀ f σ1, DOps P G ro N xs ops Q rest (acc ++ [f]) σ1 → K f σ1) → dgStep N (dsts ops) o σ (dvStepX P N xs o σ) K) :
    DOps P G ro N xs ops Q (o :: rest) acc σ := DOps.guard (fun _ => OpX.vcX) h
theorem DOps.consC {rest : List Oper} {acc : List Foot} {Q : St → Prop} (h : ∀ K : Foot → St → Prop, (∀ f σ1, DOps P G ro N xs ops Q rest (acc ++ [f]) σ1 → K f σ1) → dgStep N (dsts ops) o σ (OpX P G ro N xs o σ) K) :
    DOps P G ro N xs ops Q (o :: rest) acc σ := DOps.guard (fun _ h => h) h
def vcOpC (P : Program) (G : List (Nat × PD)) (ro : Option Nat) (N : Nat) (ds : List (Option Tmp)) (o : Oper) (σ : St) (K : St → Prop) : Prop :=
  match o.guard with
  | none => OpT P G ro N o σ K
  | some (j, want) => match gval σ ds j with
    | some b => (b = want → OpT P G ro N o σ K) ∧ (b ≠ want → dstOk N o.dst ∧ K (σ.put o.dst (.tuple [])))
    | none => gnone σ ds j = true ∧ dstOk N o.dst ∧ K (σ.put o.dst (.tuple []))
theorem AOps.consC {rest : List Oper} {Q : St → Prop} (hd : dstOk N o.dst) (h : ∀ K : St → Prop, (∀ σ, AOps P G ro N ops rest σ Q → K σ) → vcOpC P G ro N (dsts ops) o σ K) : AOps P G ro N ops (o :: rest) σ Q := by
  have h := h _ (fun _ h => h)
  unfold vcOpC at h
  split at h
  · rename_i hg; exact AOps.step hg h
  · rename_i j want hg
    split at h
    · rename_i b hb
      exact AOps.guardedU hg hb h.1 hd (fun hb => (h.2 hb).2)
    · exact AOps.skip hg h.1 h.2.1 h.2.2
theorem OpT.callV {c : Call} {xo : Operand} {f : FuncId} {args : List PV} {res : PV} {K : St → Prop} (ho : o.op = .call c) (hc : c.callee = .value xo) (hx : calleeV (σ.eval xo) = some (f, [])) (hcal : callable P f = true)
    (hf : PureFn P G f args res) (ha : argsOk σ.heap (evalL σ c.args.toList) args) (hd : dstOk N o.dst) (hK : K (σ.put o.dst res)) (hres : dOnly res) (hcl : clean res) (hrf : refsIn [] res) (hren : res.ren id = res) : OpT P G ro N o σ K := by
  refine OpT.callG (g := id) (gc := none) ho hc hx hcal hf (hand_nil σ) (.inl rfl) (handsOk_of_args (by simpa using ha)) hd ?_
  rintro p H' g' ⟨rfl, rfl⟩
  refine ⟨id, ⟨fun r x' h => by simp [hget] at h, fun r x h => by simp [hget] at h, fun r x' h => by simp [hget] at h, fun r s x y h => by simp [hget] at h, fun r x h => by simp [hget] at h⟩, hcl, hrf, ?_⟩
  rw [hren]
  exact hK
end
attribute [go_sem] xOp eqV eqD_s eqFs partD maxO vcStepX vcOpX dgStep dvStepX vcOpC dvStep calleeV
end Go.Pv

namespace Go.Pv
def rangeM {α S X : Type} (f : S → α → Option (S ⊕ X)) : S → List α → Option (S ⊕ X)
  | s, [] => some (.inl s)
  | s, a :: l => (f s a).bind fun o => match o with
    | .inl s' => rangeM f s' l
    | .inr x => some (.inr x)
theorem rangeM_snoc {α S X : Type} {f : S → α → Option (S ⊕ X)} : ∀ {l : List α} {s s' : S} {a : α} , rangeM f s l = some (.inl s') → rangeM f s (l ++ [a]) = f s' a
  | [], s, s', a, h => by
    simp only [rangeM, Option.some.injEq, Sum.inl.injEq] at h
    subst h
    simp only [List.nil_append, rangeM]
    cases f s a with
    | none => rfl
    | some o => cases o <;> rfl
  | b :: l, s, s', a, h => by
    simp only [rangeM] at h
    obtain ⟨o, h1, h2⟩ := bind_some h
    simp only [List.cons_append, rangeM, h1, Option.bind_some]
    cases o with
    | inl s1 => exact rangeM_snoc h2
    | inr x => simp at h2
theorem rangeM_pre {α S X : Type} {f : S → α → Option (S ⊕ X)} : ∀ {l m : List α} {s : S} {o : S ⊕ X}, rangeM f s (l ++ m) = some o → (∃ s', rangeM f s l = some (.inl s') ∧ rangeM f s' m = some o) ∨ ∃ x, rangeM f s l = some (.inr x) ∧ o = .inr x
  | [], m, s, o, h => .inl ⟨s, rfl, h⟩
  | a :: l, m, s, o, h => by
    simp only [List.cons_append, rangeM] at h
    obtain ⟨q, h1, h2⟩ := bind_some h
    cases q with
    | inl s1 =>
      rcases rangeM_pre h2 with ⟨s', h3, h4⟩ | ⟨x, h3, h4⟩
      · exact .inl ⟨s', by simp only [rangeM, h1, Option.bind_some]; exact h3, h4⟩
      · exact .inr ⟨x, by simp only [rangeM, h1, Option.bind_some]; exact h3, h4⟩
    | inr x => exact .inr ⟨x, by simp only [rangeM, h1, Option.bind_some], by simpa using h2.symm⟩
def QL {α S X : Type} (G : List (Nat × PD)) (N : Nat) (e : List (Nat × PV)) (T : S → Heap) (k : Nat) (Tx : X → Heap) (o : Option (S ⊕ X)) : Post
  | .normal, τ => ∃ s', o = some (.inl s') ∧ Sub G N τ ⟨[], T s', [.func (.func 0) (envL e)], none⟩
  | .exit id, τ => id = k ∧ ∃ y, o = some (.inr y) ∧ Sub G N τ ⟨[], Tx y, [.func (.func 0) (envL e)], none⟩
  | _, _ => False
section
variable {P : Program} {G : List (Nat × PD)} {N : Nat} {σ : St}
theorem AWp.rangeL {α S X : Type} {Q : Post} {gx : Operand} {t : Tmp} {assign body : Code} {gf : FuncId} {caps : List PV} (enc : α → PD) (L : List α) (T : S → Heap) (k : Nat) (Tx : X → Heap) (f : S → α → Option (S ⊕ X)) (s0 : S) {o : S ⊕ X}
    (hgv : calleeV (σ.eval gx) = some (gf, caps)) (hcap : dOnlyL caps) (hcal : callable P gf = true) (hseq : SeqFn P G gf caps (lenc enc L)) (hgh : σ.gh = none) (hdf : σ.dfr = []) (h0 : T s0 = σ.heap) (ht : t < N)
    (hce : cleanEnv σ.env) (hci : ∀ s, cleanHeap (T s)) (hcx : ∀ y, cleanHeap (Tx y)) (h : rangeM f s0 L = some o)
    (hbody : ∀ l s x q, f s x = some q → AWp P G (some l) N assign ⟨eput σ.env t (.d (enc x)), T s, [.func (.func 0) (envL σ.env)], none⟩ (Post.then (fun τ1 => AWp P G (some l) N body τ1 (@QL α S X G N σ.env T k Tx (f s x))) (fun _ _ => False)))
    (hnorm : ∀ s, o = .inl s → Q .normal ⟨σ.env, T s, [], none⟩) (hexit : ∀ y, o = .inr y → Q (.exit k) ⟨σ.env, Tx y, [], none⟩) :
    AWp P G none N (.rangeFunc gx #[t] assign body) σ Q := by
  classical
  obtain ⟨sAt, hsAt⟩ : ∃ sAt : List PD → S, ∀ pre, sAt pre = match rangeM f s0 (L.take pre.length) with | some (.inl s) => s | _ => s0 := ⟨fun pre => _, fun _ => rfl⟩
  by_cases hX : Nonempty X
  case neg =>
    have hall : ∀ (s : S) (x : α) (q : S ⊕ X), f s x = some q → ∃ s', q = .inl s' := fun s x q _ => by
      cases q with
      | inl s' => exact ⟨s', rfl⟩
      | inr y => exact absurd ⟨y⟩ hX
    refine AWp.rangeFunc (ys := lenc enc L) (fun pre => T (sAt pre)) (fun pre => ∃ m, pre = lenc enc m ∧ (∃ r, L = m ++ r) ∧ ∃ s, rangeM f s0 m = some (.inl s)) (fun _ _ => []) (fun _ _ => False) hgv hcap hcal hseq hgh hdf ?_ ⟨[], rfl, ⟨L, rfl⟩, s0, rfl⟩ ht hce (fun _ => hci _) (fun _ _ => trivial) ?_ ?_ (fun _ _ _ _ h => h.elim)
    · show T (sAt []) = _
      rw [hsAt]; exact h0
    · rintro l pre x rest hys ⟨m, rfl, ⟨r, hr⟩, s, hs⟩
      have hr2 : lenc enc L = lenc enc m ++ lenc enc r := by rw [hr]; simp [lenc]
      rw [hr2] at hys
      have hr3 : lenc enc r = x :: rest := List.append_cancel_left hys
      cases r with
      | nil => cases hr3
      | cons a r =>
        simp only [lenc_cons, List.cons.injEq] at hr3
        obtain ⟨rfl, _⟩ := hr3
        have hTs : sAt (lenc enc m) = s := by rw [hsAt, lenc_length, hr, List.take_left', hs]; rfl
        have hq : ∃ q, f s a = some q := by
          rw [hr] at h
          rcases rangeM_pre h with ⟨s', h3, h4⟩ | ⟨x, h3, _⟩
          · rw [hs] at h3; cases h3
            simp only [rangeM] at h4
            obtain ⟨q, h5, _⟩ := bind_some h4
            exact ⟨q, h5⟩
          · rw [hs] at h3; cases h3
        obtain ⟨q, hq⟩ := hq
        simp only [hTs]
        refine (hbody l s a q hq).mono fun e τ he => ?_
        cases e with
        | normal =>
          refine AWp.mono he fun e τ' he' => ?_
          cases e with
          | normal =>
            obtain ⟨s', h5, h6⟩ := he'
            have hsn := rangeM_snoc (a := a) hs
            rw [h5] at hsn
            refine ⟨⟨m ++ [a], by simp [lenc], ⟨r, by rw [hr]; simp⟩, s', hsn⟩, ?_⟩
            have e2 : sAt (lenc enc m ++ [enc a]) = s' := by
              rw [hsAt]
              have : (lenc enc m ++ [enc a]).length = (m ++ [a]).length := by simp [lenc]
              rw [this, hr, show m ++ a :: r = (m ++ [a]) ++ r by simp, List.take_left', hsn]; rfl
            show Sub G N τ' ⟨[], T (sAt (lenc enc m ++ [enc a])), _, _⟩
            rw [e2]; exact h6
          | exit id => obtain ⟨_, y, _⟩ := he'; exact absurd ⟨y⟩ hX
          | _ => exact he'.elim
        | _ => exact he.elim
    · rintro ⟨m, hm, ⟨r, hr⟩, s, hs⟩
      have hlen : m.length = L.length := by simpa [lenc] using (congrArg List.length hm).symm
      have : r = [] := by
        have := congrArg List.length hr
        simp only [List.length_append] at this
        exact List.eq_nil_of_length_eq_zero (by omega)
      subst this
      rw [List.append_nil] at hr
      subst hr
      have e2 : sAt (lenc enc L) = s := by rw [hsAt, lenc_length, List.take_length, hs]
      show Q .normal ⟨_, T (sAt (lenc enc _)), _, _⟩
      rw [e2]
      exact hnorm s (by rw [hs] at h; exact (Option.some.inj h).symm)
  case pos =>
    obtain ⟨y0⟩ := hX
    obtain ⟨yAt, hyAt⟩ : ∃ yAt : List PD → X, ∀ pre, yAt pre = match rangeM f s0 (L.take pre.length) with | some (.inr y) => y | _ => y0 := ⟨fun pre => _, fun _ => rfl⟩
    refine AWp.rangeFunc (ys := lenc enc L) (fun pre => T (sAt pre)) (fun pre => ∃ m, pre = lenc enc m ∧ (∃ r, L = m ++ r) ∧ ∃ s, rangeM f s0 m = some (.inl s)) (fun _ pre => Tx (yAt pre)) (fun id pre => id = k ∧ ∃ m, pre = lenc enc m ∧ (∃ r, L = m ++ r) ∧ ∃ y, rangeM f s0 m = some (.inr y)) hgv hcap hcal hseq hgh hdf ?_ ⟨[], rfl, ⟨L, rfl⟩, s0, rfl⟩ ht hce (fun _ => hci _) (fun _ _ => hcx _) ?_ ?_ ?_
    · show T (sAt []) = _
      rw [hsAt]; exact h0
    · rintro l pre x rest hys ⟨m, rfl, ⟨r, hr⟩, s, hs⟩
      have hr2 : lenc enc L = lenc enc m ++ lenc enc r := by rw [hr]; simp [lenc]
      rw [hr2] at hys
      have hr3 : lenc enc r = x :: rest := List.append_cancel_left hys
      cases r with
      | nil => cases hr3
      | cons a r =>
        simp only [lenc_cons, List.cons.injEq] at hr3
        obtain ⟨rfl, _⟩ := hr3
        have hTs : sAt (lenc enc m) = s := by rw [hsAt, lenc_length, hr, List.take_left', hs]; rfl
        have hq : ∃ q, f s a = some q := by
          rw [hr] at h
          rcases rangeM_pre h with ⟨s', h3, h4⟩ | ⟨x, h3, _⟩
          · rw [hs] at h3; cases h3
            simp only [rangeM] at h4
            obtain ⟨q, h5, _⟩ := bind_some h4
            exact ⟨q, h5⟩
          · rw [hs] at h3; cases h3
        obtain ⟨q, hq⟩ := hq
        simp only [hTs]
        have hsn := rangeM_snoc (a := a) hs
        have hlen : (lenc enc m ++ [enc a]).length = (m ++ [a]).length := by simp [lenc]
        have htk : L.take (m ++ [a]).length = m ++ [a] := by
          rw [hr, show m ++ a :: r = (m ++ [a]) ++ r by simp, List.take_left']; rfl
        refine (hbody l s a q hq).mono fun e τ he => ?_
        cases e with
        | normal =>
          refine AWp.mono he fun e τ' he' => ?_
          cases e with
          | normal =>
            obtain ⟨s', h5, h6⟩ := he'
            rw [h5] at hsn
            refine ⟨⟨m ++ [a], by simp [lenc], ⟨r, by rw [hr]; simp⟩, s', hsn⟩, ?_⟩
            have e2 : sAt (lenc enc m ++ [enc a]) = s' := by rw [hsAt, hlen, htk, hsn]
            show Sub G N τ' ⟨[], T (sAt (lenc enc m ++ [enc a])), _, _⟩
            rw [e2]; exact h6
          | exit id =>
            obtain ⟨rfl, y, h5, h6⟩ := he'
            rw [h5] at hsn
            refine ⟨⟨rfl, m ++ [a], by simp [lenc], ⟨r, by rw [hr]; simp⟩, y, hsn⟩, ?_⟩
            have e2 : yAt (lenc enc m ++ [enc a]) = y := by rw [hyAt, hlen, htk, hsn]
            show Sub G N τ' ⟨[], Tx (yAt (lenc enc m ++ [enc a])), _, _⟩
            rw [e2]; exact h6
          | _ => exact he'.elim
        | _ => exact he.elim
    · rintro ⟨m, hm, ⟨r, hr⟩, s, hs⟩
      have hlen : m.length = L.length := by simpa [lenc] using (congrArg List.length hm).symm
      have : r = [] := by
        have := congrArg List.length hr
        simp only [List.length_append] at this
        exact List.eq_nil_of_length_eq_zero (by omega)
      subst this
      rw [List.append_nil] at hr
      subst hr
      have e2 : sAt (lenc enc L) = s := by rw [hsAt, lenc_length, List.take_length, hs]
      show Q .normal ⟨_, T (sAt (lenc enc _)), _, _⟩
      rw [e2]
      exact hnorm s (by rw [hs] at h; exact (Option.some.inj h).symm)
    · rintro id part rest hys ⟨rfl, m, rfl, ⟨r, hr⟩, y, hy⟩
      have e2 : yAt (lenc enc m) = y := by rw [hyAt, lenc_length, hr, List.take_left', hy]; rfl
      show Q (.exit _) ⟨_, Tx (yAt (lenc enc m)), _, _⟩
      rw [e2]
      refine hexit y ?_
      rw [hr] at h
      rcases rangeM_pre h with ⟨s', h3, _⟩ | ⟨x, h3, h4⟩
      · rw [hy] at h3; cases h3
      · rw [hy] at h3; cases h3; exact h4
end
attribute [go_sem] cleanEnv cleanHeap
@[go_sem high] theorem lenV_lst {α : Type} (e : TypeId) (k : Nat) (f : α → PD) (l : List α) : lenV (.slice e) (.d (lstD k (lenc f l))) = some (l.length : Int) := by
  cases l with
  | nil => rfl
  | cons x l => simp [lstD, lenc, lenV]
@[go_sem high] theorem nilEq_lst {α : Type} (e : TypeId) (k : Nat) (f : α → PD) (l : List α) : nilEq (.slice e) (.d (lstD k (lenc f l))) (.d .nilslice) = some l.isEmpty := by
  cases l with
  | nil => rfl
  | cons x l => simp [lstD, lenc, nilEq, guardO]
@[go_sem high] theorem binV_lst {α : Type} (P : Program) (t : TypeId) (k : Nat) (f : α → PD) (l : List α) : binV P .eql t (.d (lstD k (lenc f l))) (.d .nilslice) = (tyOf P t).bind fun z => (nilEq z.desc (.d (lstD k (lenc f l))) (.d .nilslice)).map fun r => .d (.bool r) := by
  cases l <;> rfl
@[go_sem high] theorem binV_lst' {α : Type} (P : Program) (t : TypeId) (k : Nat) (f : α → PD) (l : List α) : binV P .neq t (.d (lstD k (lenc f l))) (.d .nilslice) = (tyOf P t).bind fun z => (nilEq z.desc (.d (lstD k (lenc f l))) (.d .nilslice)).map fun r => .d (.bool (!r)) := by
  cases l <;> rfl
@[go_sem high] theorem pvCells_lst {α : Type} (k : Nat) (f : α → PD) (l : List α) : pvCells (.d (lstD k (lenc f l))) = some [.d (lstD k (lenc f l))] := by
  cases l <;> rfl
@[go_sem high] theorem elemLoad_lst {α : Type} (P : Program) (t : TypeId) (k : Nat) (f : α → PD) (l : List α) (off : Nat) : elemLoad P t (.d (lstD k (lenc f l))) off = match tyOf P t with
    | none => none
    | some y => if isAggD y.desc = true then none else if off = 0 then some (.d (lstD k (lenc f l))) else none := by
  unfold elemLoad
  cases tyOf P t with
  | none => rfl
  | some y => cases l <;> rfl
theorem FnG.less {P : Program} {G : List (Nat × PD)} {f : FuncId} {args : List PV} {H : Heap} {g : Gh} {R R2 : PV → Heap → Gh → Prop} (h : FnG P G f args H g R)
    (hl : ∀ p H' g', R p H' g' → ∃ H2, heapLe H2 H' ∧ heapRefs H2 H2 ∧ refsIn H2 p ∧ R2 p H2 g') : FnG P G f args H g R2 := by
  intro B φ vs h0 h1 h2 h3
  refine (h B φ vs h0 h1 h2 h3).mono ?_
  rintro e w' ⟨v, p, H', g', φ', he, hR, hv, hs⟩
  obtain ⟨H2, h4, h5, h6, h7⟩ := hl p H' g' hR
  exact ⟨v, p, H2, g', φ', he, h7, hv.less (heapLe_get h4) h6, hs.less (heapLe_get h4) (heapRefs_get h5)⟩
end Go.Pv

namespace Go.Pv
open Go Go.ChangeShapes Go.WideShapes Go.ChangeAt Go.RowKit
def Base.top (P : Program) (W : World) : Base P where
  w0 := W
  X := fun _ => False
  hX := fun _ h => h.elim
  o0 := fun _ => False
  φ0 := fun _ => none
  z0 := fun _ => 0
  ro := none
  held := []
  hheld := fun _ => rfl
  J := fun _ _ _ _ => True
  stab := fun _ _ _ _ _ _ _ _ _ _ _ _ _ => trivial
  y := none
  yok := fun _ _ h => by cases h
def inW (w : World) (b : Nat) : Prop := b < w.heap.size
theorem okd_top {w : World} {b : Nat} (h : inW w b) : okd w (fun _ => False) Nm.no [] b :=
  ⟨h, fun h => h, fun h => h.elim (fun ⟨_, _, h, _⟩ => by cases h) fun h => h⟩
def GlobTop (G : List (Nat × PD)) (w : World) : Prop :=
  ∀ g x, (g, x) ∈ G → ∃ c e f v, w.heap[g]? = some (.cells c e f) ∧ RepD w (inW w) v x ∧ v.cells.size ≤ c.size ∧ ∀ j, j < v.cells.size → c[j]? = some (v.cells.getD j undef) ∧ flat (v.cells.getD j undef) = true
theorem own_top (b : Nat) : ¬ own Nm.no [] b := fun h => h.elim (fun ⟨_, _, h, _⟩ => by cases h) fun h => h
theorem calls_of_pure {P : Program} {G : List (Nat × PD)} {f : FuncId} {args : List PD} {b : Bool} (h : PureFn P G f (args.map .d) (.d (.bool b))) {W : World} {vs : List Value} (hl : vs.length = args.length)
    (hv : ∀ i (hi : i < args.length), RepD W (inW W) (vs.getD i undef) args[i]) (hG : GlobTop G W) :
    Calls P f vs.toArray W fun e W' => e = .returned (.bool b) ∧ Keeps (fun _ => False) W W' := by
  have key := h (Base.top P W) Nm.no vs rfl (by simpa using hl) (fun i hi => by
    have hi' : i < args.length := by simpa using hi
    have e : (args.map PV.d)[i] = .d args[i] := by simp
    rw [e]
    exact .d ((hv i hi').mono' (fun _ h => okd_top h) fun _ _ _ _ _ h => h)) ⟨⟨fun r x b h => by simp [hget] at h, fun r x h => by simp [hget] at h, fun r x h => by simp [hget] at h, fun r s x y b h => by simp [hget] at h, fun b h => h.elim⟩, Keeps.refl _ _,
      fun r x b h => by simp [hget] at h, fun r x h => by simp [hget] at h, fun r x b h => by simp [hget] at h, fun g x hx => by
        obtain ⟨c, e, f, v, h1, h2, h3, h4⟩ := hG g x hx
        exact ⟨c, e, f, v, h1, own_top g, h2.mono' (fun _ h => okd_top h) fun _ _ _ _ _ h => h, h3, h4, fun h => h⟩, fun b h => h.elim, fun b h => h⟩
  refine callsIn_wide.1 (CallsIn.mono key ?_)
  rintro e w' ⟨v, p, H', g', φ', rfl, ⟨rfl, rfl⟩, hr, hs⟩
  cases hr with
  | d hd => cases hd; exact ⟨rfl, hs.keeps⟩
section
variable {H : Type} {enc : TypeId × Value → H} {P : Program} {w : World} {sp : Nat → Bool} {held : Bool}
def Opens (P : Program) (w : World) {α : Type} (t : TypeId) (k : Nat) (f : α → PD) : Prop :=
  P.cellsOf t = k ∧ ∀ {H : Type} (enc : TypeId × Value → H) (sp : Nat → Bool) (held : Bool) (n : Nat) (cs : List Value) (x : DataW H × List MemPlace), DataW.trod enc P w 0 sp held n t cs = some x →
    ∃ (v : Value) (a : α), v.cells.toList = cs ∧ RepD w (inW w) v (f a) ∧ v.cells.size = k ∧ ∀ j, j < k → flat (v.cells.getD j undef) = true
theorem rep_slice {α : Type} [Inhabited α] {t e : TypeId} {k n : Nat} {f : α → PD} {v : Value} {x : DataW H × List MemPlace} (ht : P.underlying t = some (.slice e)) (he : Opens P w e k f) (hk : 0 < k) (h : DataW.trod enc P w 0 sp held n t [v] = some x)
    (hs : ∀ a len cap, v = .slice (some a) len cap → a.spot = none) : ∃ l : List α, RepD w (inW w) v (.imm k (lenc f l)) := by
  rcases Go.Deep.open_slice ht h with ⟨h1, _⟩ | ⟨a, len, cap, m, n', D, Pl, h1, _, hl, _, hm, _, hx⟩
  · simp only [List.cons.injEq, and_true] at h1
    subst h1
    exact ⟨[], .imm0 k⟩
  · simp only [List.cons.injEq, and_true] at h1
    subst h1
    have hsp := hs a len cap rfl
    have hlm : len ≤ m := by rw [hm]; split <;> omega
    rw [he.1] at hx
    have h2 : ∀ i, i < len → ∃ y : Value × α, (y.1.cells.toList.length = k ∧ w.cells? 0 (a.add (i * k)) k = some y.1.cells.toList) ∧ RepD w (inW w) y.1 (f y.2) ∧ y.1.cells.size = k ∧ ∀ j, j < k → flat (y.1.cells.getD j undef) = true := fun i hi => by
      obtain ⟨cs', h3, h4⟩ := hx i (by omega)
      obtain ⟨v, b, h5, h6, h7, h8⟩ := he.2 enc sp held n' cs' _ h4
      exact ⟨(v, b), ⟨by simp [h7], by rw [h5]; exact h3⟩, h6, h7, h8⟩
    have : Inhabited (Value × α) := ⟨(undef, default)⟩
    obtain ⟨Y, hY⟩ := Go.Deep.choose_lt h2
    have hcell : ∀ i, i < len → ∀ j, j < k → w.cell? ⟨a.block, a.off + i * k + j, none⟩ = some ((Y i).1.cells.getD j undef) := fun i hi j hj => by
      obtain ⟨⟨h3, h4⟩, h5, h6, _⟩ := hY i hi
      simp only [World.cells?, Nat.zero_le, if_true] at h4
      have := mapM_some_get h4 j j (by simp [hj])
      rw [Go.Deep.add_add] at this
      have e1 : a.add (i * k + j) = ⟨a.block, a.off + i * k + j, none⟩ := by
        obtain ⟨b, o, s⟩ := a
        dsimp only at hsp
        subst hsp
        simp only [Addr.add]
        split
        · rename_i h0
          have e2 : o + i * k + j = o := by omega
          rw [e2]
        · rw [Nat.add_assoc]
      rw [e1] at this
      rw [this, List.getElem?_eq_getElem (by rw [h3]; exact hj)]
      simp [Array.getD, h6, hj]
    refine ⟨(List.range len).map fun i => (Y i).2, .imm (fun i => (Y i).1) hsp (fun hne => ?_) (by simp [lenc]) hl (fun i hi => ?_) (fun i hi => ?_) (fun i hi => ?_) (fun i hi => ?_)⟩
    · have hlen : 0 < len := by
        rcases Nat.eq_zero_or_pos len with h | h
        · subst h; simp [lenc] at hne
        · exact h
      exact World.block_lt_of_cell? w ⟨a.block, a.off + 0 * k + 0, none⟩ (hcell 0 hlen 0 hk)
    · have hi' : i < len := by simpa [lenc] using hi
      have := (hY i hi').2.1
      simpa [lenc] using this
    · exact (hY i (by simpa [lenc] using hi)).2.2.1
    · exact (hY i (by simpa [lenc] using hi)).2.2.2
    · exact hcell i (by simpa [lenc] using hi)
theorem rep_arg_slice {α : Type} [Inhabited α] {r : Reach} {b0 : Nat} {t e : TypeId} {k : Nat} {f : α → PD} {v : Value} {d : DataW H} {p : List MemPlace} (ht : P.underlying t = some (.slice e)) (he : Opens P w e k f) (hk : 0 < k)
    (hval : Value.okWide P w r b0 t v) (h : DataW.Trod enc P w 0 sp held t v d p) : ∃ l : List α, RepD w (inW w) v (.imm k (lenc f l)) := by
  obtain ⟨a0, len, cap, rfl⟩ := okWide_slice ht hval
  obtain ⟨n, hn⟩ := h
  simp only [Value.cells] at hn
  refine rep_slice ht he hk hn fun a l c hv => ?_
  cases hv
  simp only [Value.okWide, ht, Cell.okWide, Cell.ok] at hval
  exact hval.2.2.2.1
theorem rep_arg_int {r : Reach} {b0 : Nat} {t : TypeId} {k : IntKind} {v : Value} (ht : P.underlying t = some (.int k)) (hval : Value.okWide P w r b0 t v) : ∃ n, RepD w (inW w) v (.int k n) := by
  obtain ⟨n, rfl⟩ := okWide_int ht hval
  exact ⟨n, .int k n⟩
theorem Keeps.since {w' : World} (h : Keeps (fun _ => False) w w') : w.Since w.heap.size w' :=
  ⟨h.os, h.tape, h.output, h.size, fun k hk => h.block k hk fun h => h⟩
theorem trodAll_stays {w' : World} {sp' : Nat → Bool} (hl : laidOutB P = true) : ∀ {ts : List TypeId} {vs : List Value} {ds : List (DataW H)} {ps : List MemPlace}, (ts.all fun t => P.readableRec t && decide (t < P.types.size)) = true →
    DataW.TrodAll enc P w 0 (fun _ => true) true ts vs ds ps → (∀ p ∈ ps, w.sameAt w' p) → (∀ p ∈ ps, sp' p.block = true) → DataW.TrodAll enc P w' 0 sp' true ts vs ds ps
  | [], [], [], _, _, h, _, _ => h
  | [], [], _ :: _, _, _, h, _, _ => h.elim
  | [], _ :: _, _, _, _, h, _, _ => h.elim
  | _ :: _, [], _, _, _, h, _, _ => h.elim
  | _ :: _, _ :: _, [], _, _, h, _, _ => h.elim
  | t :: ts, v :: vs, d :: ds, _, ht, ⟨p, q, h1, h2, e⟩, hs, hp => by
    subst e
    rw [List.all_cons, Bool.and_eq_true, Bool.and_eq_true, decide_eq_true_eq] at ht
    exact ⟨p, q, WideElems.Trod_stays hl ht.1.1 ht.1.2 h1 (fun x hx => hs x (List.mem_append_left _ hx)) (fun x hx => hp x (List.mem_append_left _ hx)),
      trodAll_stays hl ht.2 h2 (fun x hx => hs x (List.mem_append_right _ hx)) (fun x hx => hp x (List.mem_append_right _ hx)), rfl⟩
theorem law_post {f : Func} {s : ChangeSpec} {apart fresh handsOn : Bool} {W W' : World} {args : Array Value} {ds : List (DataW H)} {before : List MemPlace} {t : TypeId} (hv : s.vars = [])
    (hW : DataW.Whole enc P f.params.toList [] apart W args.toList ds [] before) (hs : Keeps (fun _ => False) W W') (e : s.fn H (ds ++ []) = { results := [.lit (.bool true)], args := ds })
    (hr : f.resultTypes = #[t]) (ht : P.underlying t = some .bool) (hl : laidOutB P = true) (hrec : (f.params.toList.all fun t => P.readableRec t && decide (t < P.types.size)) = true) :
    s.post enc P f apart fresh handsOn false W args (.bool true) W' := by
  have hlt := hW.lt
  have hW2 := hW
  obtain ⟨p, q, hA, hV, hpq, _, _⟩ := hW2
  have hlt' : ∀ x ∈ p, x.block < W.heap.size := fun x hx => hlt x (by rw [hpq]; exact List.mem_append_left _ hx)
  refine ⟨ds, [], before, [], p, [], by rw [hv]; exact hW, ?_, ?_, ?_, (Keeps.since hs).frame _, fun h => by cases h⟩
  · rw [e, hr]
    exact trodAll_mk1 (shut_bool ht _)
  · rw [e]
    exact trodAll_stays hl hrec hA (fun x hx => (Keeps.since hs).sameAt (hlt' x hx)) (fun x hx => by simpa using hlt' x hx)
  · rw [e, hv]
    rfl
end
end Go.Pv

namespace Go.Pv
def kenv (ks : List Nat) (e : List (Nat × PV)) : List (Nat × PV) := match ks with
  | [] => []
  | k :: l => (k, eget e k) :: kenv l e
def kheap (ks : List Nat) (h : Heap) : Heap := match ks with
  | [] => []
  | k :: l => match hget h k with
    | some x => (k, x) :: kheap l h
    | none => kheap l h
theorem idx_bind {α β : Type} {l : List α} {i : Int} {f : α → Option β} {r : β} (h : (idx l i).bind f = some r) : ∃ x, (0 ≤ i ∧ i < l.length ∧ l[i.toNat]? = some x ∧ i.toNat < l.length) ∧ f x = some r :=
  let ⟨x, h1, h2⟩ := bind_some h; ⟨x, idx_some h1, h2⟩
section
variable {P : Program} {G : List (Nat × PD)} {ro : Option Nat} {N : Nat} {ops : Array Oper} {σ τ σ' : St} {o : Oper} {rest : List Oper}
theorem pf {f : FuncId} {fn : Func} {c : Code} {args : List PV} {res : PV} {n : Nat} {e0 : List (Nat × PV)} (hf : P.funcs[f]? = some fn) (hn : fn.ntmps = n)
    (h : AWp P G none n c ⟨e0, [], [], none⟩ (Fin P G fn fun p H => ∃ u, frzT H p = some u ∧ leV u res)) (hb : fn.body = some c := by rfl) (hN : args.length ≤ n := by simp)
    (he : argEnv 0 args = e0 := by (simp only [argEnv, Nat.reduceAdd, Nat.zero_add]; rfl)) : PureFn P G f args res := by
  subst hn he; exact PureFn.intro2 hf hb hN h
theorem Fn.pf {f : FuncId} {fn : Func} {c : Code} {args : List PV} {n : Nat} {e0 : List (Nat × PV)} {R : PV → Heap → Prop} (hf : P.funcs[f]? = some fn) (hn : fn.ntmps = n)
    (h : AWp P G none n c ⟨e0, [], [], none⟩ (Fin P G fn R)) (hb : fn.body = some c := by rfl) (hN : args.length ≤ n := by simp)
    (he : argEnv 0 args = e0 := by (simp only [argEnv, Nat.reduceAdd, Nat.zero_add]; rfl)) : Fn P G f args [] R := by
  subst hn he; exact Fn.intro hf hb hN h
theorem rt {fn : Func} {p u res : PV} (hp : resV P G fn.results.toList σ = some p := by (simp only [go_sem, List.length_append, List.length_set, List.length_replicate, ↓reduceIte]; rfl))
    (hd : σ.dfr = [] := by first | exact True.intro | rfl)
    (hf : frzT σ.heap p = some u := by (simp only [go_sem, lenc_nil, List.take_length, List.length_append, List.length_set, List.length_replicate, ↓reduceIte]; rfl))
    (hl : leV u res := by first | exact leV_refl _ | (simp only [go_sem, leV, leVL, leD, leDL, lenc_nil, leD_refl, leDL_refl, lstD_le, ↓reduceIte]; done)) :
    Fin P G fn (fun p H => ∃ u, frzT H p = some u ∧ leV u res) .ret σ := ⟨p, hp, hd, u, hf, hl⟩
theorem rtRow {fn : Func} {e k n : Nat} {l : List PD} (hp : resV P G fn.results.toList σ = some (.slc 1000 0 n) := by (simp only [go_sem, ↓reduceIte]; rfl)) (hd : σ.dfr = [] := by first | exact True.intro | rfl) (hn : n = l.length := by (rw [lenc_length]; rfl))
    (hh : σ.heap = [(1000, ⟨e, k, dl l⟩)] := by first | rfl | (simp only [go_sem, lenc_nil, lenc_cons, ↓reduceIte]; done)) : Fin P G fn (fun p H => p = .slc 1000 0 l.length ∧ H = [(1000, ⟨e, k, dl l⟩)]) .ret σ :=
  ⟨_, hp, hd, by rw [hn], hh⟩
theorem sg {id : Nat} {l : List Oper} {y : Code} {Q : Post} (h : ∀ K : St → Prop, (∀ σ, AWp P G ro N y σ Q → K σ) → AOps P G ro N l.toArray l σ K) : AWp P G ro N (.seq (.region id l.toArray false) y) σ Q :=
  AWp.seq fun K hK => AWp.reg (h K hK)
theorem sd {id : Nat} {l : List Oper} {y : Code} {Q : Post} (hm : P.follows .mixedOrders = true) (h : ∀ K : St → Prop, (∀ σ, AWp P G ro N y σ Q → K σ) → DOps P G ro N [] l.toArray K l [] σ) : AWp P G ro N (.seq (.region id l.toArray true) y) σ Q :=
  AWp.seq fun K hK => AWp.draw hm [] trivial (h K hK)
theorem oo {Q : St → Prop} (h2 : AOps P G ro N ops rest σ' Q) (h : ∀ K : St → Prop, K σ' → vcOpU P G ro N (dsts ops) o σ K := by (intro K k; simp (disch := omega) only [go_sem, ↓reduceIte]; exact k)) : AOps P G ro N ops (o :: rest) σ Q :=
  AOps.consU fun K hK => h K (hK _ h2)
theorem ol {Q : St → Prop} (h2 : AOps P G ro N ops rest σ' Q) (h : ∀ K : St → Prop, K σ' → vcOpL P N (dsts ops) o σ K := by (intro K k; simp (disch := omega) only [go_sem, ↓reduceIte]; exact k)) : AOps P G ro N ops (o :: rest) σ Q :=
  AOps.consL fun K hK => h K (hK _ h2)
theorem ox {Q : St → Prop} (h2 : AOps P G ro N ops rest σ' Q) (h : ∀ K : St → Prop, K σ' → vcOpX P N (dsts ops) o σ K := by (intro K k; simp (disch := omega) only [go_sem, ↓reduceIte]; exact k)) : AOps P G ro N ops (o :: rest) σ Q :=
  AOps.consX fun K hK => h K (hK _ h2)
theorem dd {xs : Exc} {acc : List Foot} {f : Foot} {Q : St → Prop} (h2 : DOps P G ro N xs ops Q rest (acc ++ [f]) σ') (h : ∀ K : Foot → St → Prop, K f σ' → dgStep N (dsts ops) o σ (dvStep P G ro N xs o σ) K := by (intro K k; simp (disch := omega) only [go_sem, ↓reduceIte]; exact k)) : DOps P G ro N xs ops Q (o :: rest) acc σ :=
  DOps.consU fun K hK => h K (hK _ _ h2)
theorem ddl {xs : Exc} {acc : List Foot} {f : Foot} {Q : St → Prop} (h2 : DOps P G ro N xs ops Q rest (acc ++ [f]) σ') (h : ∀ K : Foot → St → Prop, K f σ' → dgStep N (dsts ops) o σ (dvStepL P N xs o σ) K := by (intro K k; simp (disch := omega) only [go_sem, ↓reduceIte]; exact k)) : DOps P G ro N xs ops Q (o :: rest) acc σ :=
  DOps.consLU fun K hK => h K (hK _ _ h2)
theorem cl {f : FuncId} {c : Call} {args : List PV} {res : PV} {Q : St → Prop} (hf : PureFn P G f args res) (h2 : AOps P G ro N ops rest σ' Q) (hg : ∀ {K : St → Prop}, OpT P G ro N o σ K → vcOpU P G ro N (dsts ops) o σ K := by (intro K k; simp (disch := omega) only [go_sem, ↓reduceIte]; exact k))
    (ho : o.op = .call c := by rfl) (hc : c.callee = .value (.func f) := by rfl) (hcal : callable P f = true := by kernel_rfl)
    (ha : argsOk σ.heap (evalL σ c.args.toList) args := by (repeat' (first | exact trivial | exact rfl | apply And.intro))) (hd : dstOk N o.dst := by (simp only [go_sem, ↓reduceIte]; done))
    (hp : σ.put o.dst res = σ' := by (simp only [go_sem, ↓reduceIte]; rfl)) (hr : dOnly res := by (simp only [go_sem]; done)) : AOps P G ro N ops (o :: rest) σ Q :=
  AOps.consU fun _ hK => hg (OpT.call ho hc hcal hf ha hd (hp ▸ hK _ h2) hr)
theorem clRow {f : FuncId} {c : Call} {xo : Operand} {args : List PV} {e k : Nat} {l : List PD} {Q : St → Prop} (r : Nat) (hf : RowFn P G f args e k l) (h2 : AOps P G ro N ops rest σ' Q) (hg : ∀ {K : St → Prop}, OpT P G ro N o σ K → vcOpU P G ro N (dsts ops) o σ K := by (intro K k; simp (disch := omega) only [go_sem, ↓reduceIte]; exact k))
    (ho : o.op = .call c := by rfl) (hc : c.callee = .value xo := by rfl) (hx : calleeV (σ.eval xo) = some (f, []) := by rfl) (hcal : callable P f = true := by kernel_rfl)
    (ha : argsOk σ.heap (evalL σ c.args.toList) args := by (repeat' (first | exact trivial | exact rfl | apply And.intro))) (hd : dstOk N o.dst := by (simp only [go_sem, ↓reduceIte]; done)) (hr0 : hget σ.heap r = none := by rfl) (hp0 : 1000 ≤ r := by decide)
    (hp : ({ σ with heap := hput σ.heap r { e, k, els := dl l } } : St).put o.dst (.slc r 0 l.length) = σ' := by (simp only [go_sem, ↓reduceIte]; rfl)) : AOps P G ro N ops (o :: rest) σ Q :=
  AOps.consU fun _ hK => hg (OpT.callRow ho hc hx hcal hf ha hd hr0 hp0 (hp ▸ hK _ h2))
theorem clV {f : FuncId} {c : Call} {xo : Operand} {args : List PV} {res : PV} {Q : St → Prop} (hf : PureFn P G f args res) (h2 : AOps P G ro N ops rest σ' Q) (hd : dstOk N o.dst := by (simp only [go_sem, ↓reduceIte]; done)) (hg : ∀ {K : St → Prop}, OpT P G ro N o σ K → vcOpC P G ro N (dsts ops) o σ K := by (intro K k; simp (disch := omega) only [go_sem, ↓reduceIte]; exact k))
    (ho : o.op = .call c := by rfl) (hc : c.callee = .value xo := by rfl) (hx : calleeV (σ.eval xo) = some (f, []) := by rfl) (hcal : callable P f = true := by kernel_rfl)
    (ha : argsOk σ.heap (evalL σ c.args.toList) args := by (repeat' (first | exact trivial | exact rfl | apply And.intro)))
    (hp : σ.put o.dst res = σ' := by (simp only [go_sem, ↓reduceIte]; rfl)) (hr : dOnly res := by (simp only [go_sem]; done)) (hcl : clean res := by (simp only [clean, cleanL, and_self]; done)) (hrf : refsIn [] res := by (simp only [go_sem]; done)) (hren : res.ren id = res := by rfl) : AOps P G ro N ops (o :: rest) σ Q :=
  AOps.consC hd fun _ hK => hg (OpT.callV ho hc hx hcal hf ha hd (hp ▸ hK _ h2) hr hcl hrf hren)
theorem dcl {f : FuncId} {c : Call} {args : List PV} {res : PV} {xs : Exc} {acc : List Foot} {ft : Foot} {Q : St → Prop} (hf : PureFn P G f args res) (h2 : DOps P G ro N xs ops Q rest (acc ++ [ft]) σ')
    (ho : o.op = .call c := by rfl) (hc : c.callee = .value (.func f) := by rfl) (hcal : callable P f = true := by kernel_rfl)
    (ha : argsOk σ.heap (evalL σ c.args.toList) args := by (repeat' (first | exact trivial | exact rfl | apply And.intro))) (hd : dstOk N o.dst := by (simp only [go_sem, ↓reduceIte]; done))
    (hp : σ.put o.dst res = σ' := by (simp only [go_sem, ↓reduceIte]; rfl)) (hr : dOnly res := by (simp only [go_sem]; done)) (hx : exE xs (dstEff o.dst res) := by (simp only [go_sem, or_true, true_or, ↓reduceIte]; done))
    (hg : ∀ (S : (Foot → St → Prop) → Prop) (K : Foot → St → Prop), (∀ K', K' (some (tmpKeys (opnds o.op) ++ rowKeys σ (opnds o.op), dstKeys o.dst)) σ' → S K') → K ft σ' → dgStep N (dsts ops) o σ S K := by (intro S K hS k; simp (disch := omega) only [go_sem, ↓reduceIte]; exact hS _ k)) : DOps P G ro N xs ops Q (o :: rest) acc σ :=
  DOps.consC fun _ hK => hg _ _ (fun _ hK' => OpX.call ho hc hcal hf ha hd hr hx (by rw [hp]; exact hK')) (hK _ _ h2)
theorem ct {l l1 l2 : List Oper} {Q : St → Prop} {e0 : List (Nat × PV)} {h0 : Heap} (n : Nat) (ks rs : List Nat) (e : List (Nat × PV) → List (Nat × PV))
    (h1 : AOps P G ro N ops l1 σ (fun σ' => Sub G N σ' ⟨e e0, h0, σ.dfr, σ.gh⟩)) (h2 : AOps P G ro N ops l2 ⟨e e0, h0, σ.dfr, σ.gh⟩ Q)
    (he : kenv ks σ.env = e0 := by (simp only [kenv, eget, ↓reduceIte, Nat.reduceEqDiff]; rfl)) (hh : kheap rs σ.heap = h0 := by (simp only [kheap, hget, ↓reduceIte, Nat.reduceEqDiff]; rfl))
    (hl1 : l.take n = l1 := by (simp only [List.take_succ_cons, List.take_zero]; rfl)) (hl2 : l.drop n = l2 := by (simp only [List.drop_succ_cons, List.drop_zero]; rfl)) : AOps P G ro N ops l σ Q := by
  subst hl1 hl2 he hh; exact AOps.cut n _ h1 h2
theorem sb (h1 : envLe τ.env σ.env := by (repeat' (first | exact trivial | exact rfl | apply And.intro | exact slcl (by (simp only [List.length_append, List.length_set, List.length_replicate, List.length_cons, List.length_nil, Nat.zero_add]; done)))))
    (h2 : heapLe τ.heap σ.heap := by (repeat' (first | exact trivial | exact rfl | apply And.intro)))
    (h3 : envRefs τ.heap τ.env := by (repeat' (first | exact trivial | exact rfl | apply And.intro | (simp only [go_sem, ↓reduceIte]; done))))
    (h4 : heapRefs τ.heap τ.heap := by (repeat' (first | exact trivial | exact row_refs _ _ | exact rfl | apply And.intro | (simp only [go_sem, ↓reduceIte]; done))))
    (h5 : σ.dfr = τ.dfr ∧ refsInL τ.heap τ.dfr ∧ σ.gh = τ.gh := by first | exact ⟨rfl, trivial, rfl⟩ | exact ⟨rfl, (by simp only [go_sem, envL, envLGo, ↓reduceIte]), rfl⟩) : Sub G N σ τ := Sub.mk h1 h2 h3 h4 h5
theorem sc (h2 : heapLe τ.heap σ.heap := by (repeat' (first | exact trivial | exact rfl | apply And.intro))) (h1 : envCv σ.heap τ.heap σ.env τ.env := by (repeat' (first | exact trivial | exact .inl ⟨leV_refl _, by first | exact trivial | exact rfl | (simp only [go_sem, ↓reduceIte]; done)⟩ | exact .inl ⟨le_nil _ _, trivial⟩ | exact .inr ⟨_, frz_row rfl (by first | rfl | (simp only [List.length_append, List.length_set, List.length_replicate, List.length_cons, List.length_nil, Nat.zero_add]; done)), leV_refl _, rows_slc rfl⟩ | exact .inl ⟨slcle (by simp only [List.length_append, List.length_set, List.length_replicate, List.length_cons, List.length_nil, Nat.zero_add]; done), rfl⟩ | exact .inl ⟨by (simp only [leV]; exact lstD_le _ _), trivial⟩ | exact .inl ⟨by (simp only [go_sem, leV, leD, leDL, lenc_nil, leD_refl, leDL_refl, lstD_le, ↓reduceIte]; done), trivial⟩ |
      exact .inr ⟨_, by (simp only [go_sem, List.take_length, List.length_append, List.length_set, List.length_replicate, ↓reduceIte]; rfl), by (first | exact leV_refl _ | (simp only [go_sem, leV, leVL, leD, leDL, lenc_nil, leD_refl, leDL_refl, ↓reduceIte]; done)), by (intro r hr; simp only [go_sem, rowsOf, rowsOfL, List.mem_cons, List.not_mem_nil, or_false, List.append_nil, ↓reduceIte] at hr; subst hr; rfl)⟩ | apply And.intro)))
    (h4 : heapRefs τ.heap τ.heap := by (repeat' (first | exact trivial | exact row_refs _ _ | exact rfl | apply And.intro | (simp only [go_sem, ↓reduceIte]; done)))) (h5 : σ.dfr = τ.dfr ∧ refsInL τ.heap τ.dfr ∧ σ.gh = τ.gh := by first | exact ⟨rfl, trivial, rfl⟩ | exact ⟨rfl, (by simp only [go_sem, envL, envLGo, ↓reduceIte]), rfl⟩) : Sub G N σ τ := Sub.cv h2 h1 h4 h5
theorem sch (h : heapCv τ.heap σ.heap := by (repeat' (first | exact trivial | exact ⟨_, rfl, rfl, rfl, leVL_refl _⟩ | exact ⟨_, rfl, rfl, rfl, ⟨by (simp only [leV, leD, leDL, lenc_nil, leD_refl, leDL_refl, lstD_le, and_self, and_true]; done), trivial⟩⟩ | exact ⟨_, rfl, rfl, rfl, leVL_rep (by (simp only [go_sem, leD, leDL, lenc_nil, leD_refl, leDL_refl, and_self, and_true]; done)) _⟩ | apply And.intro)))
    (h2 : heapLe τ.heap (hconv τ.heap σ.heap) := by (repeat' (first | exact trivial | exact rfl | apply And.intro))) (h1 : envCv (hconv τ.heap σ.heap) τ.heap σ.env τ.env := by (repeat' (first | exact trivial | exact .inl ⟨leV_refl _, by first | exact trivial | exact rfl | (simp only [go_sem, ↓reduceIte]; done)⟩ | exact .inl ⟨le_nil _ _, trivial⟩ | exact .inr ⟨_, frz_row rfl (by first | rfl | (simp only [List.length_append, List.length_set, List.length_replicate, List.length_cons, List.length_nil, Nat.zero_add]; done)), leV_refl _, rows_slc rfl⟩ | exact .inl ⟨slcle (by simp only [List.length_append, List.length_set, List.length_replicate, List.length_cons, List.length_nil, Nat.zero_add]; done), rfl⟩ | exact .inl ⟨by (simp only [leV]; exact lstD_le _ _), trivial⟩ | exact .inl ⟨by (simp only [go_sem, leV, leD, leDL, lenc_nil, leD_refl, leDL_refl, lstD_le, ↓reduceIte]; done), trivial⟩ |
      exact .inr ⟨_, by (simp only [go_sem, List.take_length, List.length_append, List.length_set, List.length_replicate, ↓reduceIte]; rfl), by (first | exact leV_refl _ | (simp only [go_sem, leV, leVL, leD, leDL, lenc_nil, leD_refl, leDL_refl, ↓reduceIte]; done)), by (intro r hr; simp only [go_sem, rowsOf, rowsOfL, List.mem_cons, List.not_mem_nil, or_false, List.append_nil, ↓reduceIte] at hr; subst hr; rfl)⟩ | apply And.intro)))
    (h4 : heapRefs τ.heap τ.heap := by (repeat' (first | exact trivial | exact row_refs _ _ | exact rfl | apply And.intro | (simp only [go_sem, ↓reduceIte]; done)))) (h5 : σ.dfr = τ.dfr ∧ refsInL τ.heap τ.dfr ∧ σ.gh = τ.gh := by first | exact ⟨rfl, trivial, rfl⟩ | exact ⟨rfl, (by simp only [go_sem, envL, envLGo, ↓reduceIte]), rfl⟩) : Sub G N σ τ := Sub.cvh h h2 h1 h4 h5
theorem cd {α : Type} {c : Operand} {x y : Code} {Q : Post} {b : Bool} {m1 m2 : α} {r : α} (h : cond b m1 m2 = r) (h1 : m1 = r → AWp P G ro N x σ Q) (h2 : m2 = r → AWp P G ro N y σ Q) (hc : σ.eval c = .d (.bool b) := by rfl) : AWp P G ro N (.cond c x y) σ Q :=
  AWp.cond hc (fun hb => h1 (by rw [hb] at h; exact h)) (fun hb => h2 (by rw [hb] at h; exact h))
theorem cdt {c : Operand} {x y : Code} {Q : Post} (h1 : AWp P G ro N x σ Q) (hc : σ.eval c = .d (.bool true) := by rfl) : AWp P G ro N (.cond c x y) σ Q := AWp.cond hc (fun _ => h1) (fun hb => by cases hb)
theorem cdf {c : Operand} {x y : Code} {Q : Post} (h1 : AWp P G ro N y σ Q) (hc : σ.eval c = .d (.bool false) := by rfl) : AWp P G ro N (.cond c x y) σ Q := AWp.cond hc (fun hb => by cases hb) (fun _ => h1)
theorem lp {S X : Type} {c : Code} {Q : Post} (ks rs : List Nat) (e : S → List (Nat × PV) → List (Nat × PV)) (H : S → Heap → Heap) {e0 : List (Nat × PV)} {h0 : Heap} {f : S → Option (S ⊕ X)} {s0 : S} {x : X}
    (hi : iter f s0 = some x) (hs : Sub G N σ ⟨e s0 e0, H s0 h0, σ.dfr, σ.gh⟩)
    (h : ∀ s o, f s = some o → AWp P G ro N c ⟨e s e0, H s h0, σ.dfr, σ.gh⟩ (Post.then (fun σ' => ∃ s', o = .inl s' ∧ Sub G N σ' ⟨e s' e0, H s' h0, σ.dfr, σ.gh⟩) (fun ex σ' => ∃ y, o = .inr y ∧ (y = x → Q ex σ'))))
    (he : kenv ks σ.env = e0 := by (simp only [kenv, eget, ↓reduceIte, Nat.reduceEqDiff]; rfl)) (hh : kheap rs σ.heap = h0 := by (simp only [kheap, hget, ↓reduceIte, Nat.reduceEqDiff]; rfl)) : AWp P G ro N (.loop c) σ Q := by
  obtain ⟨n, hn⟩ := iter_some hi
  refine AWp.loopI (fun i : Nat × S => ⟨e i.2 e0, H i.2 h0, σ.dfr, σ.gh⟩) (fun i => iterN f i.1 i.2 = some x) (fun i => i.1) (n, s0) hn hs ?_
  rintro ⟨n, s⟩ hn
  cases n with
  | zero => cases hn
  | succ n =>
    rw [iterN_succ] at hn
    obtain ⟨o, h1, h2⟩ := bind_some hn
    refine (h s o h1).mono fun ex σ' hp => ?_
    cases ex with
    | normal => obtain ⟨s', rfl, h4⟩ := hp; exact ⟨(n, s'), h2, Nat.lt_succ_self n, h4⟩
    | _ => obtain ⟨y, rfl, h4⟩ := hp; exact h4 (by simpa using h2)
theorem jm {α ι ρ : Type} {x y : Code} {Q : Post} (ks rs : List Nat) (e : ι → List (Nat × PV) → List (Nat × PV)) (H : ι → Heap → Heap) {e0 : List (Nat × PV)} {h0 : Heap} {m : Option α} {f : α → Option ρ} {r : ρ} (inj : ι → α) (h : m.bind f = some r)
    (h1 : ∀ o, m = some o → f o = some r → AWp P G ro N x σ (Post.then (fun σ' => ∃ i, o = inj i ∧ Sub G N σ' ⟨e i e0, H i h0, σ.dfr, σ.gh⟩) Q)) (h2 : ∀ i, f (inj i) = some r → AWp P G ro N y ⟨e i e0, H i h0, σ.dfr, σ.gh⟩ Q)
    (he : kenv ks σ.env = e0 := by (simp only [kenv, eget, ↓reduceIte, Nat.reduceEqDiff]; rfl)) (hh : kheap rs σ.heap = h0 := by (simp only [kheap, hget, ↓reduceIte, Nat.reduceEqDiff]; rfl)) : AWp P G ro N (.seq x y) σ Q := by
  obtain ⟨o, h3, h4⟩ := bind_some h
  exact AWp.seqI (fun i => ⟨e i e0, H i h0, σ.dfr, σ.gh⟩) (fun i => o = inj i) (h1 o h3 h4) (fun i hi => h2 i (hi ▸ h4))
theorem jn {α ρ : Type} {x y : Code} {Q : Post} (ks rs : List Nat) (e : α → List (Nat × PV) → List (Nat × PV)) (H : α → Heap → Heap) {e0 : List (Nat × PV)} {h0 : Heap} {m : Option α} {f : α → Option ρ} {r : ρ} (h : m.bind f = some r)
    (h1 : ∀ o, m = some o → AWp P G ro N x σ (Post.then (fun σ' => Sub G N σ' ⟨e o e0, H o h0, σ.dfr, σ.gh⟩) Q)) (h2 : ∀ o, f o = some r → AWp P G ro N y ⟨e o e0, H o h0, σ.dfr, σ.gh⟩ Q)
    (he : kenv ks σ.env = e0 := by (simp only [kenv, eget, ↓reduceIte, Nat.reduceEqDiff]; rfl)) (hh : kheap rs σ.heap = h0 := by (simp only [kheap, hget, ↓reduceIte, Nat.reduceEqDiff]; rfl)) : AWp P G ro N (.seq x y) σ Q :=
  jm ks rs e H id h (fun o h3 _ => (h1 o h3).mono fun ex σ' hp => by cases ex <;> first | exact ⟨o, rfl, hp⟩ | exact hp) h2 he hh
theorem ln {S X : Type} {T : S → St} {p : S} {q : S ⊕ X} (h : some (.inl p) = some q) (hs : Sub G N σ (T p)) : ∃ s', q = .inl s' ∧ Sub G N σ (T s') := ⟨p, (Option.some.inj h).symm, hs⟩
theorem lx {S X : Type} {y x : X} {q : S ⊕ X} {R : Prop} (h : some (.inr y) = some q) (hq : y = x → R) : ∃ y', q = .inr y' ∧ (y' = x → R) := ⟨y, (Option.some.inj h).symm, hq⟩
theorem bt (b : Bool) : b = true ∨ b = false := Bool.eq_false_or_eq_true b
end
end Go.Pv

namespace Go.Pv
open Go.Sort
theorem heap_grow (w : World) (os : Array Obj) {b : Nat} (h : b < w.heap.size) : (grow w os).heap[b]? = w.heap[b]? := by
  simp [grow, Array.getElem?_append, h]
theorem heap_putRow {α : Type} [Inhabited α] (enc : α → Value) (w : World) (blk off : Nat) (d : Array α) (b : Nat) : (putRow enc w blk off d).heap[b]? = if b = blk then (w.heap[b]?).map (onCells (putCells enc off d)) else w.heap[b]? := by
  simp only [putRow, mapBlock, Array.getElem?_modify]
  by_cases h : b = blk
  · subst h; simp
  · simp [h, Ne.symm h]
theorem Sit.putRow {P : Program} {G : List (Nat × PD)} {B : Base P} {w : World} {φ : Nm} {r e : Nat} {g : Gh} {α : Type} [Inhabited α] {enc : α → Value} {pd : α → PD} (hrep : ∀ (w : World) (ok : Nat → Prop) x, RepD w ok (enc x) (pd x)) (hflat : ∀ x, flat (enc x) = true)
    {L L' : List α} (hro : B.ro = none) (hs : Sit G B w φ [(r, ⟨e, 1, dl (lenc pd L)⟩)] g) (hl : L'.length = L.length) {b : Nat} (hb : φ r = some b) (n : Nat) (os : Array Obj) :
    Sit G B (grow (Sort.putRow enc (Sort.ahead w n) b 0 L'.toArray) os) φ [(r, ⟨e, 1, dl (lenc pd L')⟩)] g := by
  have hx : hget ([(r, ⟨e, 1, dl (lenc pd L)⟩)] : Heap) r = some ⟨e, 1, dl (lenc pd L)⟩ := by simp [hget]
  have hr : Rep G B 0 ⟨[], [(r, ⟨e, 1, dl (lenc pd L)⟩)], [], g⟩ { tmps := #[], defers := [] } w φ := by
    refine Rep.of_sit hs rfl (fun t => .any _) ?_
    rw [B.hheld hro]; exact .nil
  have hlt := hr.heap.lt hx hb
  have e1 : grow (Sort.putRow enc (Sort.ahead w n) b 0 L'.toArray) os = Sort.putRow enc (grow (Sort.ahead w n) os) b 0 L'.toArray := (putRow_grow enc (Sort.ahead w n) os b 0 L'.toArray hlt).symm
  rw [e1]
  have hsz : w.heap.size ≤ (grow (Sort.ahead w n) os).heap.size := by simp [grow, Sort.ahead]
  have hold : ∀ c, c < w.heap.size → (grow (Sort.ahead w n) os).heap[c]? = w.heap[c]? := fun c h => heap_grow (Sort.ahead w n) os h
  have hr1 : Rep G B 0 ⟨[], [(r, ⟨e, 1, dl (lenc pd L)⟩)], [], g⟩ { tmps := #[], defers := [] } (grow (Sort.ahead w n) os) φ :=
    hr.world (ext_more hsz hold (fun s x c h1 h2 => hr.heap.lt h1 h2)) ⟨rfl, rfl, rfl, hsz, fun c h _ => hold c h⟩ (fun s x c h1 h2 => hold c (hr.heap.lt h1 h2)) (fun c h _ => hold c h)
  obtain ⟨c, C, h1, h2, h3⟩ := (hr1.heap.rows r _ b hx hb).here
  have hll : (dl (lenc pd L)).length = L.length := by simp [dl, lenc]
  have hw := hr1.write (w' := Sort.putRow enc (grow (Sort.ahead w n) os) b 0 L'.toArray) (c' := putCells enc 0 L'.toArray c) hx hb (els := dl (lenc pd L')) (by simp [dl, lenc, hl]) h1 (by rw [heap_putRow, if_pos rfl, h1]; rfl) (by simp [putCells])
    ⟨rfl, rfl, rfl, by simp, fun k _ hk => by rw [heap_putRow, if_neg hk]⟩ (by simp) (fun i hi => by
      have hi' : i < L'.length := by simpa [dl, lenc] using hi
      have hcs : i < c.size := by
        have := h2.1; have := h2.2.1
        rw [hll] at this
        dsimp only at *
        omega
      refine ⟨enc L'[i], ?_, by rw [flat_cells (hflat _)]; rfl, fun j hj => ?_⟩
      · have e2 : (dl (lenc pd L'))[i] = .d (pd L'[i]) := by simp [dl, lenc]
        rw [e2]; exact .d (hrep _ _ _)
      · have hj0 : j = 0 := by dsimp only at hj; omega
        subst hj0
        rw [flat_cells (hflat _)]
        refine ⟨?_, hflat _⟩
        simp [putCells, Array.getElem?_mapIdx, hcs, hi', Array.getD])
  have e3 : hput ([(r, ⟨e, 1, dl (lenc pd L)⟩)] : Heap) r ⟨e, 1, dl (lenc pd L')⟩ = [(r, ⟨e, 1, dl (lenc pd L')⟩)] := by simp [hput]
  have := hw.sit
  dsimp only at this
  rw [e3] at this
  exact this
theorem Sit.holds {P : Program} {G : List (Nat × PD)} {B : Base P} {w : World} {φ : Nm} {r e : Nat} {g : Gh} {α : Type} [Inhabited α] {enc : α → Value} {pd : α → PD} (hun : ∀ (w : World) (X : Nat → Prop) (φ : Nm) (H : Heap) v x, RepV w X φ H v (.d (pd x)) → v = enc x) (hflat : ∀ x, flat (enc x) = true)
    {L : List α} (hs : Sit G B w φ [(r, ⟨e, 1, dl (lenc pd L)⟩)] g) {b : Nat} (hb : φ r = some b) : Holds enc w b 0 L.toArray ∧ b < w.heap.size := by
  have hx : hget ([(r, ⟨e, 1, dl (lenc pd L)⟩)] : Heap) r = some ⟨e, 1, dl (lenc pd L)⟩ := by simp [hget]
  obtain ⟨c, C, h1, h2, h3⟩ := (hs.heap.rows r _ b hx hb).here
  refine ⟨fun j hj => ?_, (Array.getElem?_eq_some_iff.1 h1).1⟩
  have hj' : j < L.length := by simpa using hj
  obtain ⟨v, hv, hs1, hv2⟩ := h3 j (by simpa [dl, lenc] using hj')
  have e2 : (dl (lenc pd L))[j]'(by simpa [dl, lenc] using hj') = .d (pd L[j]) := by simp [dl, lenc]
  rw [e2] at hv
  have := hun _ _ _ _ _ _ hv
  subst this
  have hc := (hv2 0 Nat.one_pos).1
  rw [flat_cells (hflat _)] at hc
  have hc : c[j]? = some (enc L[j]) := by simpa [Array.getD] using hc
  refine ⟨?_, ?_⟩
  · simp [World.cell?, h1, hc, hj']
  · simp [World.frozen?, h1]
end Go.Pv

namespace Go.Pv
section
variable {P : Program} {G : List (Nat × PD)} {ro : Option Nat} {N : Nat} {ops : Array Oper} {σ τ σ' : St} {o : Oper} {rest : List Oper}
def HandFn (P : Program) (G : List (Nat × PD)) (f : FuncId) (args : List PV) (i e k : Nat) (l : List PD) (res : PV) (l' : List PD) : Prop :=
  Fn P G f args [(i, ⟨e, k, dl l⟩)] fun p K => p = res ∧ K = [(i, ⟨e, k, dl l'⟩)] ∧ l'.length = l.length
theorem hget1 {i s : Nat} {x y : Row} (h : hget [(i, x)] s = some y) : s = i ∧ y = x := by
  simp only [hget] at h
  split at h
  · rename_i e; simp only [Option.some.injEq] at h; exact ⟨e.symm, h.symm⟩
  · cases h
theorem clH {f : FuncId} {c : Call} {xo : Operand} {args : List PV} {res : PV} {i e k : Nat} {l l' : List PD} {Q : St → Prop} (r : Nat) (hf : HandFn P G f args i e k l res l') (h2 : AOps P G ro N ops rest σ' Q)
    (hd : dstOk N o.dst := by (simp only [go_sem, ↓reduceIte]; done)) (hg : ∀ {K : St → Prop}, OpT P G ro N o σ K → vcOpC P G ro N (dsts ops) o σ K := by (intro K k; simp (disch := omega) only [go_sem, ↓reduceIte]; exact k))
    (ho : o.op = .call c := by rfl) (hc : c.callee = .value xo := by rfl) (hx : calleeV (σ.eval xo) = some (f, []) := by rfl) (hcal : callable P f = true := by kernel_rfl) (hi : i < 1000 := by decide)
    (hrow : hget σ.heap r = some ⟨e, k, dl l⟩ := by rfl)
    (ha : handsOk σ.heap [(i, ⟨e, k, dl l⟩)] (fun _ => r) (evalL σ c.args.toList) args := by (repeat' (first | exact trivial | exact rfl | apply And.intro | exact slcl (by (simp only [lenc_length, List.length_append, List.length_set, List.length_replicate, List.length_cons, List.length_nil, Nat.zero_add]; done)) | (simp only [go_sem, ↓reduceIte]; done))))
    (hp : ({ σ with heap := hput σ.heap r ⟨e, k, dl l'⟩ } : St).put o.dst (res.ren fun _ => r) = σ' := by (simp only [go_sem, ↓reduceIte]; rfl)) (hcl : clean res := by (simp only [clean, cleanL, and_self]; done)) (hrf : refsIn [(i, ⟨e, k, dl l'⟩)] res := by (first | exact trivial | exact rfl | (simp only [go_sem, ↓reduceIte]; done))) :
    AOps P G ro N ops (o :: rest) σ Q := by
  refine AOps.consC hd fun K hK => hg ?_
  refine OpT.callG (H := [(i, ⟨e, k, dl l⟩)]) (g := fun _ => r) (gc := none) ho hc hx hcal hf ⟨fun s x h => ?_, fun s x h => ?_, fun s t x y h h' _ => ?_, fun s x h => ?_⟩ (.inl rfl) (by rw [List.append_nil]; exact ha) hd ?_
  · rw [(hget1 h).1]; exact hi
  · rw [(hget1 h).2, hrow]; simp only [Row.ren, dl_ren]
  · rw [(hget1 h).1, (hget1 h').1]
  · rw [(hget1 h).2]; exact row_refs _ _
  · rintro p H' g' ⟨rfl, rfl, hlen⟩
    refine ⟨fun _ => r, ⟨fun s x h _ => ?_, fun s x h => ?_, fun s x h hs => ?_, fun s t x y h h' _ => ?_, fun s x h => ?_⟩, hcl, hrf, ?_⟩
    · obtain ⟨rfl, rfl⟩ := hget1 h
      exact ⟨⟨e, k, dl l⟩, by simp [hget], rfl, rfl, by simp [dl, hlen]⟩
    · obtain ⟨rfl, rfl⟩ := hget1 h
      exact ⟨_, by simp [hget]; rfl⟩
    · have := (hget1 h).1; omega
    · rw [(hget1 h).1, (hget1 h').1]
    · rw [(hget1 h).2]; exact ⟨row_refs _ _, by rw [dl_clean]; trivial⟩
    · simp only [hmerge, Row.ren, dl_ren, ghBack]
      exact hp ▸ hK _ h2
def NewFn (P : Program) (G : List (Nat × PD)) (f : FuncId) (args : List PV) (res : Nat → PV) (e k : Nat) (l : List PD) : Prop :=
  Fn P G f args [] fun p K => ∃ q, 1000 ≤ q ∧ p = res q ∧ K = [(q, ⟨e, k, dl l⟩)]
theorem NewFn.pf {f : FuncId} {fn : Func} {c : Code} {args : List PV} {n : Nat} {e0 : List (Nat × PV)} {res : Nat → PV} {e k : Nat} {l : List PD} (hf : P.funcs[f]? = some fn) (hn : fn.ntmps = n)
    (h : AWp P G none n c ⟨e0, [], [], none⟩ (Fin P G fn fun p K => ∃ q, 1000 ≤ q ∧ p = res q ∧ hget K q = some ⟨e, k, dl l⟩)) (hb : fn.body = some c := by rfl) (hN : args.length ≤ n := by simp)
    (he : argEnv 0 args = e0 := by (simp only [argEnv, Nat.reduceAdd, Nat.zero_add]; rfl)) (hrf : ∀ q x, refsIn [(q, x)] (res q) := by (intro q x; simp only [go_sem, hget, ↓reduceIte, Option.isSome_some]; done)) : NewFn P G f args res e k l := by
  subst hn he
  intro B φ vs h0 h1 h2 h3
  refine (Fn.intro hf hb hN h B φ vs h0 h1 h2 h3).mono ?_
  rintro e' w' ⟨v, p, H', g', φ', he, ⟨q, hq, rfl, hg⟩, hv, hs⟩
  have hle : ∀ r x, hget [(q, (⟨e, k, dl l⟩ : Row))] r = some x → hget H' r = some x := fun r x hx => by
    obtain ⟨rfl, rfl⟩ := hget1 hx; exact hg
  exact ⟨v, _, [(q, ⟨e, k, dl l⟩)], g', φ', he, ⟨q, hq, rfl, rfl⟩, hv.less hle (hrf q _), hs.less hle (fun r x hx => by rw [(hget1 hx).2]; exact row_refs _ _)⟩
end
end Go.Pv

namespace Go.Pv
@[irreducible] def sortI (l : List Int) : List Int := l.mergeSort fun x y => decide (x ≤ y)
@[irreducible] def compactI (l : List Int) : List Int := Go.Lib.compact l
@[go_sem] theorem sortI_length (l : List Int) : (sortI l).length = l.length := by unfold sortI; exact List.length_mergeSort l
end Go.Pv

namespace Go.Pv
structure Ratio where
  Num : Int
  Den : Int
deriving DecidableEq
instance : Inhabited Ratio := ⟨⟨0, 0⟩⟩
def Ratio.pd (x : Ratio) : PD := .agg [(.int .i64 x.Num), (.int .i64 x.Den)]
attribute [go_sem] Ratio.pd
@[go_sem] theorem snoc_Ratio (l : List Ratio) (a0 : Int) (a1 : Int) : dl (lenc Ratio.pd l) ++ [PV.d (PD.agg [(.int .i64 a0), (.int .i64 a1)])] = dl (lenc Ratio.pd (l ++ [(⟨a0, a1⟩ : Ratio)])) := lenc_snoc Ratio.pd l (⟨a0, a1⟩ : Ratio)
@[go_sem] theorem set_Ratio (l : List Ratio) (i : Nat) (a0 : Int) (a1 : Int) : (lenc Ratio.pd l).set i (PD.agg [(.int .i64 a0), (.int .i64 a1)]) = lenc Ratio.pd (l.set i (⟨a0, a1⟩ : Ratio)) := lenc_set Ratio.pd l i (⟨a0, a1⟩ : Ratio)
@[go_sem] theorem rep_Ratio (n : Nat) (a0 : Int) (a1 : Int) : List.replicate n (PD.agg [(.int .i64 a0), (.int .i64 a1)]) = lenc Ratio.pd (List.replicate n (⟨a0, a1⟩ : Ratio)) := lenc_rep Ratio.pd n (⟨a0, a1⟩ : Ratio)
structure Walk where
  list : (List Int)
  rate : Ratio
  to : Int
deriving DecidableEq
instance : Inhabited Walk := ⟨⟨[], ⟨0, 0⟩, 0⟩⟩
def Walk.pd (x : Walk) : PD := .agg [(lstD 1 (lenc (PD.int .i64) x.list)), (.int .i64 x.rate.Num), (.int .i64 x.rate.Den), (.int .i64 x.to)]
attribute [go_sem] Walk.pd
@[go_sem] theorem snoc_Walk (l : List Walk) (a0 : (List Int)) (a1 : Int) (a2 : Int) (a3 : Int) : dl (lenc Walk.pd l) ++ [PV.d (PD.agg [(lstD 1 (lenc (PD.int .i64) a0)), (.int .i64 a1), (.int .i64 a2), (.int .i64 a3)])] = dl (lenc Walk.pd (l ++ [(⟨a0, (⟨a1, a2⟩ : Ratio), a3⟩ : Walk)])) := lenc_snoc Walk.pd l (⟨a0, (⟨a1, a2⟩ : Ratio), a3⟩ : Walk)
@[go_sem] theorem set_Walk (l : List Walk) (i : Nat) (a0 : (List Int)) (a1 : Int) (a2 : Int) (a3 : Int) : (lenc Walk.pd l).set i (PD.agg [(lstD 1 (lenc (PD.int .i64) a0)), (.int .i64 a1), (.int .i64 a2), (.int .i64 a3)]) = lenc Walk.pd (l.set i (⟨a0, (⟨a1, a2⟩ : Ratio), a3⟩ : Walk)) := lenc_set Walk.pd l i (⟨a0, (⟨a1, a2⟩ : Ratio), a3⟩ : Walk)
@[go_sem] theorem rep_Walk (n : Nat) (a0 : (List Int)) (a1 : Int) (a2 : Int) (a3 : Int) : List.replicate n (PD.agg [(lstD 1 (lenc (PD.int .i64) a0)), (.int .i64 a1), (.int .i64 a2), (.int .i64 a3)]) = lenc Walk.pd (List.replicate n (⟨a0, (⟨a1, a2⟩ : Ratio), a3⟩ : Walk)) := lenc_rep Walk.pd n (⟨a0, (⟨a1, a2⟩ : Ratio), a3⟩ : Walk)
structure Offer where
  From : Int
  To : Int
  Num : Int
  Den : Int
deriving DecidableEq
instance : Inhabited Offer := ⟨⟨0, 0, 0, 0⟩⟩
def Offer.pd (x : Offer) : PD := .agg [(.int .i64 x.From), (.int .i64 x.To), (.int .i64 x.Num), (.int .i64 x.Den)]
attribute [go_sem] Offer.pd
@[go_sem] theorem snoc_Offer (l : List Offer) (a0 : Int) (a1 : Int) (a2 : Int) (a3 : Int) : dl (lenc Offer.pd l) ++ [PV.d (PD.agg [(.int .i64 a0), (.int .i64 a1), (.int .i64 a2), (.int .i64 a3)])] = dl (lenc Offer.pd (l ++ [(⟨a0, a1, a2, a3⟩ : Offer)])) := lenc_snoc Offer.pd l (⟨a0, a1, a2, a3⟩ : Offer)
@[go_sem] theorem set_Offer (l : List Offer) (i : Nat) (a0 : Int) (a1 : Int) (a2 : Int) (a3 : Int) : (lenc Offer.pd l).set i (PD.agg [(.int .i64 a0), (.int .i64 a1), (.int .i64 a2), (.int .i64 a3)]) = lenc Offer.pd (l.set i (⟨a0, a1, a2, a3⟩ : Offer)) := lenc_set Offer.pd l i (⟨a0, a1, a2, a3⟩ : Offer)
@[go_sem] theorem rep_Offer (n : Nat) (a0 : Int) (a1 : Int) (a2 : Int) (a3 : Int) : List.replicate n (PD.agg [(.int .i64 a0), (.int .i64 a1), (.int .i64 a2), (.int .i64 a3)]) = lenc Offer.pd (List.replicate n (⟨a0, a1, a2, a3⟩ : Offer)) := lenc_rep Offer.pd n (⟨a0, a1, a2, a3⟩ : Offer)
structure Market where
  n : Int
  offers : (List Offer)
deriving DecidableEq
instance : Inhabited Market := ⟨⟨0, []⟩⟩
def Market.pd (x : Market) : PD := .agg [(.int .i64 x.n), (.imm 4 (lenc Offer.pd x.offers))]
attribute [go_sem] Market.pd
@[go_sem] theorem snoc_Market (l : List Market) (a0 : Int) (a1 : (List Offer)) : dl (lenc Market.pd l) ++ [PV.d (PD.agg [(.int .i64 a0), (.imm 4 (lenc Offer.pd a1))])] = dl (lenc Market.pd (l ++ [(⟨a0, a1⟩ : Market)])) := lenc_snoc Market.pd l (⟨a0, a1⟩ : Market)
@[go_sem] theorem set_Market (l : List Market) (i : Nat) (a0 : Int) (a1 : (List Offer)) : (lenc Market.pd l).set i (PD.agg [(.int .i64 a0), (.imm 4 (lenc Offer.pd a1))]) = lenc Market.pd (l.set i (⟨a0, a1⟩ : Market)) := lenc_set Market.pd l i (⟨a0, a1⟩ : Market)
@[go_sem] theorem rep_Market (n : Nat) (a0 : Int) (a1 : (List Offer)) : List.replicate n (PD.agg [(.int .i64 a0), (.imm 4 (lenc Offer.pd a1))]) = lenc Market.pd (List.replicate n (⟨a0, a1⟩ : Market)) := lenc_rep Market.pd n (⟨a0, a1⟩ : Market)
structure Big where
  Neg : Bool
  D : (List Int)
deriving DecidableEq
instance : Inhabited Big := ⟨⟨false, []⟩⟩
def Big.pd (x : Big) : PD := .agg [(.bool x.Neg), (.imm 1 (lenc (PD.int .i64) x.D))]
attribute [go_sem] Big.pd
@[go_sem] theorem snoc_Big (l : List Big) (a0 : Bool) (a1 : (List Int)) : dl (lenc Big.pd l) ++ [PV.d (PD.agg [(.bool a0), (.imm 1 (lenc (PD.int .i64) a1))])] = dl (lenc Big.pd (l ++ [(⟨a0, a1⟩ : Big)])) := lenc_snoc Big.pd l (⟨a0, a1⟩ : Big)
@[go_sem] theorem set_Big (l : List Big) (i : Nat) (a0 : Bool) (a1 : (List Int)) : (lenc Big.pd l).set i (PD.agg [(.bool a0), (.imm 1 (lenc (PD.int .i64) a1))]) = lenc Big.pd (l.set i (⟨a0, a1⟩ : Big)) := lenc_set Big.pd l i (⟨a0, a1⟩ : Big)
@[go_sem] theorem rep_Big (n : Nat) (a0 : Bool) (a1 : (List Int)) : List.replicate n (PD.agg [(.bool a0), (.imm 1 (lenc (PD.int .i64) a1))]) = lenc Big.pd (List.replicate n (⟨a0, a1⟩ : Big)) := lenc_rep Big.pd n (⟨a0, a1⟩ : Big)
structure Q where
  N : Big
  D : Big
deriving DecidableEq
instance : Inhabited Q := ⟨⟨⟨false, []⟩, ⟨false, []⟩⟩⟩
def Q.pd (x : Q) : PD := .agg [(.bool x.N.Neg), (.imm 1 (lenc (PD.int .i64) x.N.D)), (.bool x.D.Neg), (.imm 1 (lenc (PD.int .i64) x.D.D))]
attribute [go_sem] Q.pd
@[go_sem] theorem snoc_Q (l : List Q) (a0 : Bool) (a1 : (List Int)) (a2 : Bool) (a3 : (List Int)) : dl (lenc Q.pd l) ++ [PV.d (PD.agg [(.bool a0), (.imm 1 (lenc (PD.int .i64) a1)), (.bool a2), (.imm 1 (lenc (PD.int .i64) a3))])] = dl (lenc Q.pd (l ++ [(⟨(⟨a0, a1⟩ : Big), (⟨a2, a3⟩ : Big)⟩ : Q)])) := lenc_snoc Q.pd l (⟨(⟨a0, a1⟩ : Big), (⟨a2, a3⟩ : Big)⟩ : Q)
@[go_sem] theorem set_Q (l : List Q) (i : Nat) (a0 : Bool) (a1 : (List Int)) (a2 : Bool) (a3 : (List Int)) : (lenc Q.pd l).set i (PD.agg [(.bool a0), (.imm 1 (lenc (PD.int .i64) a1)), (.bool a2), (.imm 1 (lenc (PD.int .i64) a3))]) = lenc Q.pd (l.set i (⟨(⟨a0, a1⟩ : Big), (⟨a2, a3⟩ : Big)⟩ : Q)) := lenc_set Q.pd l i (⟨(⟨a0, a1⟩ : Big), (⟨a2, a3⟩ : Big)⟩ : Q)
@[go_sem] theorem rep_Q (n : Nat) (a0 : Bool) (a1 : (List Int)) (a2 : Bool) (a3 : (List Int)) : List.replicate n (PD.agg [(.bool a0), (.imm 1 (lenc (PD.int .i64) a1)), (.bool a2), (.imm 1 (lenc (PD.int .i64) a3))]) = lenc Q.pd (List.replicate n (⟨(⟨a0, a1⟩ : Big), (⟨a2, a3⟩ : Big)⟩ : Q)) := lenc_rep Q.pd n (⟨(⟨a0, a1⟩ : Big), (⟨a2, a3⟩ : Big)⟩ : Q)
structure Reach where
  Is : Bool
  Rate : Q
deriving DecidableEq
instance : Inhabited Reach := ⟨⟨false, ⟨⟨false, []⟩, ⟨false, []⟩⟩⟩⟩
def Reach.pd (x : Reach) : PD := .agg [(.bool x.Is), (.bool x.Rate.N.Neg), (.imm 1 (lenc (PD.int .i64) x.Rate.N.D)), (.bool x.Rate.D.Neg), (.imm 1 (lenc (PD.int .i64) x.Rate.D.D))]
attribute [go_sem] Reach.pd
@[go_sem] theorem snoc_Reach (l : List Reach) (a0 : Bool) (a1 : Bool) (a2 : (List Int)) (a3 : Bool) (a4 : (List Int)) : dl (lenc Reach.pd l) ++ [PV.d (PD.agg [(.bool a0), (.bool a1), (.imm 1 (lenc (PD.int .i64) a2)), (.bool a3), (.imm 1 (lenc (PD.int .i64) a4))])] = dl (lenc Reach.pd (l ++ [(⟨a0, (⟨(⟨a1, a2⟩ : Big), (⟨a3, a4⟩ : Big)⟩ : Q)⟩ : Reach)])) := lenc_snoc Reach.pd l (⟨a0, (⟨(⟨a1, a2⟩ : Big), (⟨a3, a4⟩ : Big)⟩ : Q)⟩ : Reach)
@[go_sem] theorem set_Reach (l : List Reach) (i : Nat) (a0 : Bool) (a1 : Bool) (a2 : (List Int)) (a3 : Bool) (a4 : (List Int)) : (lenc Reach.pd l).set i (PD.agg [(.bool a0), (.bool a1), (.imm 1 (lenc (PD.int .i64) a2)), (.bool a3), (.imm 1 (lenc (PD.int .i64) a4))]) = lenc Reach.pd (l.set i (⟨a0, (⟨(⟨a1, a2⟩ : Big), (⟨a3, a4⟩ : Big)⟩ : Q)⟩ : Reach)) := lenc_set Reach.pd l i (⟨a0, (⟨(⟨a1, a2⟩ : Big), (⟨a3, a4⟩ : Big)⟩ : Q)⟩ : Reach)
@[go_sem] theorem rep_Reach (n : Nat) (a0 : Bool) (a1 : Bool) (a2 : (List Int)) (a3 : Bool) (a4 : (List Int)) : List.replicate n (PD.agg [(.bool a0), (.bool a1), (.imm 1 (lenc (PD.int .i64) a2)), (.bool a3), (.imm 1 (lenc (PD.int .i64) a4))]) = lenc Reach.pd (List.replicate n (⟨a0, (⟨(⟨a1, a2⟩ : Big), (⟨a3, a4⟩ : Big)⟩ : Q)⟩ : Reach)) := lenc_rep Reach.pd n (⟨a0, (⟨(⟨a1, a2⟩ : Big), (⟨a3, a4⟩ : Big)⟩ : Q)⟩ : Reach)
def ratioN (a b : Int) : Ratio := ⟨a / Int.gcd a b, b / Int.gcd a b⟩
def timesN (p q : Ratio) : Ratio := ⟨p.Num / Int.gcd p.Num q.Den * (q.Num / Int.gcd q.Num p.Den), p.Den / Int.gcd q.Num p.Den * (q.Den / Int.gcd p.Num q.Den)⟩
def walkSkip (frm length : Int) (rounds : Bool) (w : Walk) (seen : List Bool) (o : Offer) : Bool :=
  (decide (¬o.From = w.to)) || (seen.getD o.To.toNat false && !((rounds && (decide ((w.list.length : Int) = length - 1))) && (decide (o.To = frm))))
def walkOn (offers : List Offer) (frm length : Int) (rounds : Bool) : Nat → Walk → List Bool → List Walk
  | 0, _, _ => []
  | k + 1, w, seen =>
    if (w.list.length : Int) = length then (if (!(decide (w.to = frm) == rounds)) = true then [] else [w])
    else (offers.zipIdx).flatMap fun oi =>
      if walkSkip frm length rounds w (seen.set w.to.toNat true) oi.1 = true then []
      else walkOn offers frm length rounds k ⟨w.list ++ [(oi.2 : Int)], timesN w.rate (ratioN oi.1.Num oi.1.Den), oi.1.To⟩ (seen.set w.to.toNat true)
def walksL (m : Market) (frm length : Int) (rounds : Bool) : List Walk :=
  walkOn m.offers frm length rounds (length.toNat + 1) ⟨[], ⟨1, 1⟩, frm⟩ (List.replicate m.n.toNat false)
def goodOffer (n : Int) (o : Offer) : Bool := decide (0 ≤ o.From ∧ o.From < n ∧ 0 ≤ o.To ∧ o.To < n ∧ 1 ≤ o.Num ∧ o.Num ≤ 50 ∧ 1 ≤ o.Den ∧ o.Den ≤ 50)
def walksPre (m : Market) (frm length : Int) (_ : Bool) : Bool :=
  decide (m.n ≤ 6 ∧ m.offers.length ≤ 40 ∧ 0 ≤ frm ∧ frm < m.n ∧ 0 ≤ length ∧ length ≤ 6) && m.offers.all (goodOffer m.n)
def cloneO {α : Type} (l : List α) : Option (List α) := if l.length ≤ 4294967296 then some l else none
def delOk (l : List Offer) (i j : Int) : Bool := decide (0 ≤ i ∧ i ≤ j ∧ j ≤ l.length ∧ l.length ≤ 4294967296)
def delN (l : List Offer) (i j : Int) : Nat := l.length - (j - i).toNat
def delP (l : List Offer) (i j : Int) : List Offer := l.take i.toNat ++ l.drop j.toNat ++ List.replicate (j - i).toNat (⟨0, 0, 0, 0⟩ : Offer)
noncomputable def m_cocketlaw01_few (l1 : (List Offer)) : Option Bool :=
 some (decide ((l1.length : Int) ≤ 60))
noncomputable def m_cocketlaw01_ring : Option (List Offer) :=
 some [(⟨0, 1, 2, 1⟩ : Offer), (⟨1, 2, 3, 2⟩ : Offer), (⟨2, 0, 1, 3⟩ : Offer)]
noncomputable def m_rate_market_has (m1 : Market) (c1 : Int) : Option Bool :=
 some ((decide (0 ≤ c1)) && (decide (c1 < m1.n)))
noncomputable def m_rate_of_1 (v1 : Int) : Option Bool :=
 some ((decide (1 ≤ v1)) && (decide (v1 ≤ 50)))
noncomputable def m_rate_of_l1 (n1 : Int) (offers1 : (List Offer)) : (Int × Market) → Option ((Int × Market) ⊕ (Market ⊕ (Market × Int))) := fun (v1, c2) =>
 cond (decide (v1 < (offers1.length : Int)))
  (
  (idx offers1 v1).bind fun e1 =>
  (m_rate_market_has (⟨n1, offers1⟩ : Market) e1.From).bind fun r1 =>
  ((cond (!r1)
   (some true)
   (
    (m_rate_market_has (⟨n1, offers1⟩ : Market) e1.To).bind fun r2 =>
    some (!r2)
   )
  ) : Option Bool).bind fun b1 =>
  ((cond (b1 || (decide (e1.From = e1.To)))
   (some true)
   (
    (m_rate_of_1 e1.Num).bind fun r3 =>
    some (!r3)
   )
  ) : Option Bool).bind fun b2 =>
  ((cond b2
   (some true)
   (
    (m_rate_of_1 e1.Den).bind fun r4 =>
    some (!r4)
   )
  ) : Option Bool).bind fun b3 =>
  cond b3
   (
   some (.inr (.inr ((⟨0, []⟩ : Market), 2)))
   )
   (
   some (.inl ((IntKind.i64.wrap (v1 + 1)), c2))
   )
  )
  (
  some (.inr (.inl c2))
  )
noncomputable def m_rate_of (n1 : Int) (offers1 : (List Offer)) : Option (Market × Int) :=
 cond ((decide (n1 < 2)) || (decide (6 < n1)))
  (
  some ((⟨0, []⟩ : Market), 2)
  )
  (
  cond (decide (40 < (offers1.length : Int)))
   (
   some ((⟨0, []⟩ : Market), 3)
   )
   (
   (
   (
    (
    (iter (m_rate_of_l1 n1 offers1) (0, (⟨0, []⟩ : Market))).bind fun x_12 => match x_12 with
      | (.inl y1) => some (.inl y1)
      | (.inr y2) => some (.inr y2)
    )
    : Option (Market ⊕ (Market × Int))).bind fun o_6 => match o_6 with
     | (.inl c1) =>
       some ((⟨n1, offers1⟩ : Market), 0)
     | (.inr y3) => some y3
   )
   )
  )
noncomputable def m_rate_above (a1 : Ratio) (b1 : Ratio) : Option Bool :=
 some (decide ((IntKind.i64.wrap (b1.Num * a1.Den)) < (IntKind.i64.wrap (a1.Num * b1.Den))))
noncomputable def m_cmp_isNaN (x1 : Int) : Option Bool :=
 some (decide (¬x1 = x1))
noncomputable def m_cmp_Compare (x1 : Int) (y1 : Int) : Option Int :=
 (m_cmp_isNaN x1).bind fun r1 =>
 (m_cmp_isNaN y1).bind fun r2 =>
 cond r1
  (
  cond r2
   (
   some 0
   )
   (
   some (-1)
   )
  )
  (
  cond r2
   (
   some 1
   )
   (
   cond (decide (x1 < y1))
    (
    some (-1)
    )
    (
    cond (decide (y1 < x1))
     (
     some 1
     )
     (
     some 0
     )
    )
   )
  )
noncomputable def m_slices_Compare_l1 (s11 : (List Int)) (s21 : (List Int)) : Int → Option (Int ⊕ (Unit ⊕ Int)) := fun v1 =>
 cond (decide (v1 < (s11.length : Int)))
  (
  (idx s11 v1).bind fun e1 =>
  cond (decide ((s21.length : Int) ≤ v1))
   (
   some (.inr (.inr 1))
   )
   (
   (idx s21 v1).bind fun e2 =>
   (m_cmp_Compare e1 e2).bind fun r1 =>
   cond (decide (¬r1 = 0))
    (
    some (.inr (.inr r1))
    )
    (
    some (.inl (IntKind.i64.wrap (v1 + 1)))
    )
   )
  )
  (
  some (.inr (.inl ()))
  )
noncomputable def m_slices_Compare (s11 : (List Int)) (s21 : (List Int)) : Option Int :=
 (
 (
  (
  (iter (m_slices_Compare_l1 s11 s21) 0).bind fun x_7 => match x_7 with
    | (.inl y1) => some (.inl y1)
    | (.inr y2) => some (.inr y2)
  )
  : Option (Unit ⊕ Int)).bind fun o_1 => match o_1 with
   | (.inl _) =>
     cond (decide ((s11.length : Int) < (s21.length : Int)))
      (
      some (-1)
      )
      (
      some 0
      )
   | (.inr y3) => some y3
 )
noncomputable def m_rate_market_round_r3 : (List Int) → Walk → Option ((List Int) ⊕ (List Int)) := fun c4 x1 =>
 (m_rate_above x1.rate (⟨1, 1⟩ : Ratio)).bind fun r1 =>
 cond r1
  (
  (
   ((cond ((c4).isEmpty)
    (some true)
    (
     (m_slices_Compare x1.list c4).bind fun r2 =>
     some (decide (r2 < 0))
    )
   ) : Option Bool).bind fun b1 =>
   cond b1
    (
    some x1.list
    )
    (
    some c4
    )
   : Option (List Int)).bind fun c5 =>
  some (.inr c5)
  )
  (
  some (.inl c4)
  )
noncomputable def m_rate_market_round_l2 (m1 : Market) (length1 : Int) : (Int × (List Int)) → Option ((Int × (List Int)) ⊕ (List Int)) := fun (v1, c2) =>
 cond (decide (v1 < m1.n))
  (
  (
   guardO (walksPre m1 v1 length1 true = true) <|
   (
   (rangeM (m_rate_market_round_r3) c2 (walksL m1 v1 length1 true)).bind fun o_38 => match o_38 with
     | .inl c4 =>
       some c4
     | .inr c41 =>
       some c41
   )
   : Option (List Int)).bind fun c3 =>
  some (.inl ((IntKind.i64.wrap (v1 + 1)), c3))
  )
  (
  some (.inr c2)
  )
noncomputable def m_rate_market_round_l1 (m1 : Market) : Int → Option (Int ⊕ (Unit ⊕ (List Int))) := fun length1 =>
 cond (decide (length1 ≤ m1.n))
  (
  (
  (
   (
    (iter (m_rate_market_round_l2 m1 length1) (0, [])).bind fun x_19 =>
    some x_19
    : Option (List Int)).bind fun c1 =>
   cond (!(c1).isEmpty)
    (
    some (.inr c1)
    )
    (
    some (.inl ())
    )
   : Option (Unit ⊕ (List Int))).bind fun o_11 => match o_11 with
    | (.inl _) =>
      some (.inl (IntKind.i64.wrap (length1 + 1)))
    | (.inr y1) => some (.inr (.inr y1))
  )
  )
  (
  some (.inr (.inl ()))
  )
noncomputable def m_rate_market_round (m1 : Market) : Option (List Int) :=
 (
 (
  (
  (iter (m_rate_market_round_l1 m1) 2).bind fun x_7 => match x_7 with
    | (.inl y2) => some (.inl y2)
    | (.inr y3) => some (.inr y3)
  )
  : Option (Unit ⊕ (List Int))).bind fun o_1 => match o_1 with
   | (.inl _) =>
     some []
   | (.inr y4) => some y4
 )
noncomputable def m_rate_market_best_r2 (to1 : Int) : (Walk × Bool) → Walk → Option ((Walk × Bool) ⊕ (Walk × Bool)) := fun (c7, c8) x1 =>
 ((cond (decide (x1.to = to1))
  (
   ((cond (!c8)
    (some true)
    (
     (m_rate_above x1.rate c7.rate).bind fun r1 =>
     some r1
    )
   ) : Option Bool).bind fun b2 =>
   some b2
  )
  (some false)
 ) : Option Bool).bind fun b1 =>
 cond b1
  (
  some (.inl (x1, true))
  )
  (
  some (.inl (c7, c8))
  )
noncomputable def m_rate_market_best_l1 (m1 : Market) (from1 : Int) (to1 : Int) : (Int × Walk × Bool) → Option ((Int × Walk × Bool) ⊕ (Walk × Bool)) := fun (length1, c3, c4) =>
 cond (decide (length1 < m1.n))
  (
  (
   guardO (walksPre m1 from1 length1 false = true) <|
   (
   (rangeM (m_rate_market_best_r2 to1) (c3, c4) (walksL m1 from1 length1 false)).bind fun o_26 => match o_26 with
     | .inl (c7, c8) =>
       some (c7, c8)
     | .inr (c71, c81) =>
       none
   )
   : Option (Walk × Bool)).bind fun (c5, c6) =>
  some (.inl ((IntKind.i64.wrap (length1 + 1)), c5, c6))
  )
  (
  some (.inr (c3, c4))
  )
noncomputable def m_rate_market_best (m1 : Market) (from1 : Int) (to1 : Int) : Option (Walk × Bool) :=
 cond (decide (from1 = to1))
  (
  some ((⟨[], (⟨1, 1⟩ : Ratio), 0⟩ : Walk), true)
  )
  (
  (
   (iter (m_rate_market_best_l1 m1 from1 to1) (1, (⟨[], (⟨0, 0⟩ : Ratio), 0⟩ : Walk), false)).bind fun x_9 =>
   some x_9
   : Option (Walk × Bool)).bind fun (c1, c2) =>
  some (c1, c2)
  )
noncomputable def m_rate_Prices_l2 (n1 : Int) (r1 : (Market × Int)) (v1 : Int) : (Int × Ratio) → Option ((Int × Ratio) ⊕ Ratio) := fun (v2, c2) =>
 cond (decide (v2 < n1))
  (
  (
   (m_rate_market_best r1.1 v1 v2).bind fun r3 =>
   ((cond r3.2
    (
     (m_rate_above r3.1.rate c2).bind fun r4 =>
     some r4
    )
    (some false)
   ) : Option Bool).bind fun b1 =>
   cond b1
    (
    some r3.1.rate
    )
    (
    some c2
    )
   : Option Ratio).bind fun c3 =>
  some (.inl ((IntKind.i64.wrap (v2 + 1)), c3))
  )
  (
  some (.inr c2)
  )
noncomputable def m_rate_Prices_l1 (n1 : Int) (r1 : (Market × Int)) : (Int × (List Ratio)) → Option ((Int × (List Ratio)) ⊕ (List Ratio)) := fun (v1, L2) =>
 cond (decide (v1 < n1))
  (
  (
   (
    (iter (m_rate_Prices_l2 n1 r1 v1) (0, (⟨1, 1⟩ : Ratio))).bind fun x_25 =>
    some x_25
    : Option Ratio).bind fun c1 =>
   guardO (L2.length + [c1].length ≤ 4294967296) <|
   some (L2 ++ [c1])
   : Option (List Ratio)).bind fun L3 =>
  some (.inl ((IntKind.i64.wrap (v1 + 1)), L3))
  )
  (
  some (.inr L2)
  )
noncomputable def m_rate_Prices (n1 : Int) (offers1 : (List Offer)) : Option ((List Ratio) × Int) :=
 (m_rate_of n1 offers1).bind fun r1 =>
 cond (decide (¬r1.2 = 0))
  (
  some ([], r1.2)
  )
  (
  (m_rate_market_round r1.1).bind fun r2 =>
  cond (!(r2).isEmpty)
   (
   some ([], 10)
   )
   (
   (
    (iter (m_rate_Prices_l1 n1 r1) (0, [])).bind fun x_13 =>
    some x_13
    : Option (List Ratio)).bind fun L1 =>
   some (L1, 0)
   )
  )
noncomputable def m_rate_Best (n1 : Int) (offers1 : (List Offer)) (from1 : Int) (to1 : Int) : Option (Ratio × (List Int) × Int) :=
 (m_rate_of n1 offers1).bind fun r1 =>
 cond (decide (¬r1.2 = 0))
  (
  some ((⟨0, 0⟩ : Ratio), [], r1.2)
  )
  (
  (m_rate_market_has r1.1 from1).bind fun r2 =>
  ((cond (!r2)
   (some true)
   (
    (m_rate_market_has r1.1 to1).bind fun r3 =>
    some (!r3)
   )
  ) : Option Bool).bind fun b1 =>
  cond b1
   (
   some ((⟨0, 0⟩ : Ratio), [], 2)
   )
   (
   (m_rate_market_round r1.1).bind fun r4 =>
   cond (!(r4).isEmpty)
    (
    some ((⟨0, 0⟩ : Ratio), [], 11)
    )
    (
    (m_rate_market_best r1.1 from1 to1).bind fun r5 =>
    cond (!r5.2)
     (
     some ((⟨0, 0⟩ : Ratio), [], 10)
     )
     (
     some (r5.1.rate, r5.1.list, 0)
     )
    )
   )
  )
noncomputable def m_rate_Round (n1 : Int) (offers1 : (List Offer)) : Option ((List Int) × Int) :=
 (m_rate_of n1 offers1).bind fun r1 =>
 cond (decide (¬r1.2 = 0))
  (
  some ([], r1.2)
  )
  (
  (m_rate_market_round r1.1).bind fun r2 =>
  cond ((r2).isEmpty)
   (
   some ([], 10)
   )
   (
   some (r2, 0)
   )
  )
noncomputable def m_cocketlaw01_same_l1 (a1 : (List Int)) (b1 : (List Int)) : Int → Option (Int ⊕ (Unit ⊕ Bool)) := fun i1 =>
 cond (decide (i1 < (a1.length : Int)))
  (
  (idx a1 i1).bind fun e1 =>
  (idx b1 i1).bind fun e2 =>
  cond (decide (¬e1 = e2))
   (
   some (.inr (.inr false))
   )
   (
   some (.inl (IntKind.i64.wrap (i1 + 1)))
   )
  )
  (
  some (.inr (.inl ()))
  )
noncomputable def m_cocketlaw01_same (a1 : (List Int)) (b1 : (List Int)) : Option Bool :=
 cond (decide (¬(a1.length : Int) = (b1.length : Int)))
  (
  some false
  )
  (
  (
  (
   (
   (iter (m_cocketlaw01_same_l1 a1 b1) 0).bind fun x_9 => match x_9 with
     | (.inl y1) => some (.inl y1)
     | (.inr y2) => some (.inr y2)
   )
   : Option (Unit ⊕ Bool)).bind fun o_3 => match o_3 with
    | (.inl _) =>
      some true
    | (.inr y3) => some y3
  )
  )
noncomputable def m_cocketlaw01_alive : Option Bool :=
 (m_cocketlaw01_ring).bind fun r1 =>
 (m_rate_Prices 3 r1).bind fun r2 =>
 (m_cocketlaw01_ring).bind fun r3 =>
 (m_rate_Best 3 r3 0 2).bind fun r4 =>
 (m_cocketlaw01_ring).bind fun r5 =>
 (idx r5 2).bind fun e1 =>
 (m_rate_Round 3 (r5.set 2 (⟨e1.From, e1.To, e1.Num, 2⟩ : Offer))).bind fun r6 =>
 ((cond ((decide (r2.2 = 0)) && (decide ((r2.1.length : Int) = 3)))
  (
   (idx r2.1 1).bind fun e2 =>
   some ((e2.Num == 3) && (e2.Den == 2))
  )
  (some false)
 ) : Option Bool).bind fun b1 =>
 ((cond ((((b1 && (decide (r4.2.2 = 0))) && ((r4.1.Num == 3) && (r4.1.Den == 1))) && (decide ((r4.2.1.length : Int) = 2))) && (decide (r6.2 = 0)))
  (
   (m_cocketlaw01_same r6.1 [0, 1, 2]).bind fun r7 =>
   some r7
  )
  (some false)
 ) : Option Bool).bind fun b2 =>
 some b2
noncomputable def m_cocketref01_Good_l1 (n1 : Int) (l1 : (List Offer)) : Int → Option (Int ⊕ (Unit ⊕ Int)) := fun i1 =>
 cond (decide (i1 < (l1.length : Int)))
  (
  (idx l1 i1).bind fun e1 =>
  cond (((((((((decide (e1.From < 0)) || (decide (n1 ≤ e1.From))) || (decide (e1.To < 0))) || (decide (n1 ≤ e1.To))) || (decide (e1.From = e1.To))) || (decide (e1.Num < 1))) || (decide (50 < e1.Num))) || (decide (e1.Den < 1))) || (decide (50 < e1.Den)))
   (
   some (.inr (.inr 2))
   )
   (
   some (.inl (IntKind.i64.wrap (i1 + 1)))
   )
  )
  (
  some (.inr (.inl ()))
  )
noncomputable def m_cocketref01_Good (n1 : Int) (l1 : (List Offer)) : Option Int :=
 cond ((decide (n1 < 2)) || (decide (6 < n1)))
  (
  some 2
  )
  (
  cond (decide (40 < (l1.length : Int)))
   (
   some 3
   )
   (
   (
   (
    (
    (iter (m_cocketref01_Good_l1 n1 l1) 0).bind fun x_13 => match x_13 with
      | (.inl y1) => some (.inl y1)
      | (.inr y2) => some (.inr y2)
    )
    : Option (Unit ⊕ Int)).bind fun o_7 => match o_7 with
     | (.inl _) =>
       some 0
     | (.inr y3) => some y3
   )
   )
  )
noncomputable def m_cocketref01_trim_l1 (d1 : (List Int)) : Int → Option (Int ⊕ Int) := fun n2 =>
 ((cond (decide (0 < n2))
  (
   (idx d1 (IntKind.i64.wrap (n2 - 1))).bind fun e1 =>
   some (decide (e1 = 0))
  )
  (some false)
 ) : Option Bool).bind fun b1 =>
 cond b1
  (
  some (.inl (IntKind.i64.wrap (n2 - 1)))
  )
  (
  some (.inr n2)
  )
noncomputable def m_cocketref01_trim_l2 (d1 : (List Int)) (n1 : Int) : (Int × (List Int)) → Option ((Int × (List Int)) ⊕ (List Int)) := fun (i1, L2) =>
 cond (decide (i1 < n1))
  (
  (idx d1 i1).bind fun e2 =>
  guardO (L2.length + [e2].length ≤ 4294967296) <|
  some (.inl ((IntKind.i64.wrap (i1 + 1)), (L2 ++ [e2])))
  )
  (
  some (.inr L2)
  )
noncomputable def m_cocketref01_trim (d1 : (List Int)) : Option (List Int) :=
 (
  (iter (m_cocketref01_trim_l1 d1) (d1.length : Int)).bind fun x_7 =>
  some x_7
  : Option Int).bind fun n1 =>
 (
  (iter (m_cocketref01_trim_l2 d1 n1) (0, [])).bind fun x_23 =>
  some x_23
  : Option (List Int)).bind fun L1 =>
 some L1
noncomputable def m_cocketref01_whole (neg1 : Bool) (d1 : (List Int)) : Option Big :=
 (m_cocketref01_trim d1).bind fun r1 =>
 some (⟨(neg1 && (decide (0 < (r1.length : Int)))), r1⟩ : Big)
noncomputable def m_cocketref01_Of_l1 : (Int × (List Int)) → Option ((Int × (List Int)) ⊕ (List Int)) := fun (n2, L2) =>
 cond (decide (¬n2 = 0))
  (
  (
   cond (decide ((n2.tmod 10000) < 0))
    (
    some (IntKind.i64.wrap (0 - (n2.tmod 10000)))
    )
    (
    some (n2.tmod 10000)
    )
   : Option Int).bind fun r1 =>
  guardO (L2.length + [r1].length ≤ 4294967296) <|
  some (.inl ((IntKind.i64.wrap (n2.tdiv 10000)), (L2 ++ [r1])))
  )
  (
  some (.inr L2)
  )
noncomputable def m_cocketref01_Of (n1 : Int) : Option Big :=
 (
  (iter m_cocketref01_Of_l1 (n1, [])).bind fun x_7 =>
  some x_7
  : Option (List Int)).bind fun L1 =>
 (m_cocketref01_whole (decide (n1 < 0)) L1).bind fun r2 =>
 some r2
noncomputable def m_cocketref01_Neg (a1 : Big) : Option Big :=
 (m_cocketref01_whole (!a1.Neg) a1.D).bind fun r1 =>
 some r1
noncomputable def m_cocketref01_mulD_l2 (a1 : (List Int)) (b1 : (List Int)) (i1 : Int) : (Int × Int × (List Int)) → Option ((Int × Int × (List Int)) ⊕ (Int × (List Int))) := fun (carry2, k1, L5) =>
 cond (decide (k1 < (b1.length : Int)))
  (
  (idx L5 (IntKind.i64.wrap (i1 + k1))).bind fun e1 =>
  (idx a1 i1).bind fun e2 =>
  (idx b1 k1).bind fun e3 =>
  (idx L5 (IntKind.i64.wrap (i1 + k1))).bind fun e4 =>
  some (.inl ((IntKind.i64.wrap ((IntKind.i64.wrap ((IntKind.i64.wrap (e1 + (IntKind.i64.wrap (e2 * e3)))) + carry2)).tdiv 10000)), (IntKind.i64.wrap (k1 + 1)), (L5.set ((IntKind.i64.wrap (i1 + k1))).toNat ((IntKind.i64.wrap ((IntKind.i64.wrap (e1 + (IntKind.i64.wrap (e2 * e3)))) + carry2)).tmod 10000))))
  )
  (
  some (.inr (carry2, L5))
  )
noncomputable def m_cocketref01_mulD_l1 (a1 : (List Int)) (b1 : (List Int)) : (Int × (List Int)) → Option ((Int × (List Int)) ⊕ (List Int)) := fun (i1, L2) =>
 cond (decide (i1 < (a1.length : Int)))
  (
  (
   (
    (iter (m_cocketref01_mulD_l2 a1 b1 i1) (0, 0, L2)).bind fun x_20 =>
    some x_20
    : Option (Int × (List Int))).bind fun (carry1, L4) =>
   (idx L4 (IntKind.i64.wrap (i1 + (b1.length : Int)))).bind fun e5 =>
   some (L4.set ((IntKind.i64.wrap (i1 + (b1.length : Int)))).toNat carry1)
   : Option (List Int)).bind fun L3 =>
  some (.inl ((IntKind.i64.wrap (i1 + 1)), L3))
  )
  (
  some (.inr L2)
  )
noncomputable def m_cocketref01_mulD (a1 : (List Int)) (b1 : (List Int)) : Option (List Int) :=
 guardO (0 ≤ (IntKind.i64.wrap ((a1.length : Int) + (b1.length : Int))) ∧ (IntKind.i64.wrap ((a1.length : Int) + (b1.length : Int))) ≤ 4294967296) <|
 (
  (iter (m_cocketref01_mulD_l1 a1 b1) (0, (List.replicate ((IntKind.i64.wrap ((a1.length : Int) + (b1.length : Int)))).toNat (0 : Int)))).bind fun x_8 =>
  some x_8
  : Option (List Int)).bind fun L1 =>
 (m_cocketref01_trim L1).bind fun r1 =>
 some r1
noncomputable def m_cocketref01_cmpD_l1 (a1 : (List Int)) (b1 : (List Int)) : Int → Option (Int ⊕ (Unit ⊕ Int)) := fun i1 =>
 cond (decide (0 ≤ i1))
  (
  (idx a1 i1).bind fun e1 =>
  (idx b1 i1).bind fun e2 =>
  cond (decide (e1 < e2))
   (
   some (.inr (.inr (-1)))
   )
   (
   (idx a1 i1).bind fun e3 =>
   (idx b1 i1).bind fun e4 =>
   cond (decide (e4 < e3))
    (
    some (.inr (.inr 1))
    )
    (
    some (.inl (IntKind.i64.wrap (i1 - 1)))
    )
   )
  )
  (
  some (.inr (.inl ()))
  )
noncomputable def m_cocketref01_cmpD (a1 : (List Int)) (b1 : (List Int)) : Option Int :=
 cond (decide ((a1.length : Int) < (b1.length : Int)))
  (
  some (-1)
  )
  (
  cond (decide ((b1.length : Int) < (a1.length : Int)))
   (
   some 1
   )
   (
   (
   (
    (
    (iter (m_cocketref01_cmpD_l1 a1 b1) (IntKind.i64.wrap ((a1.length : Int) - 1))).bind fun x_11 => match x_11 with
      | (.inl y1) => some (.inl y1)
      | (.inr y2) => some (.inr y2)
    )
    : Option (Unit ⊕ Int)).bind fun o_5 => match o_5 with
     | (.inl _) =>
       some 0
     | (.inr y3) => some y3
   )
   )
  )
noncomputable def m_cocketref01_subD_l1 (a1 : (List Int)) (b1 : (List Int)) : (Int × Int × (List Int)) → Option ((Int × Int × (List Int)) ⊕ (List Int)) := fun (borrow1, i1, L2) =>
 cond (decide (i1 < (a1.length : Int)))
  (
  (idx a1 i1).bind fun e1 =>
  (
   cond (decide (i1 < (b1.length : Int)))
    (
    (idx b1 i1).bind fun e2 =>
    some (IntKind.i64.wrap ((IntKind.i64.wrap (e1 - borrow1)) - e2))
    )
    (
    some (IntKind.i64.wrap (e1 - borrow1))
    )
   : Option Int).bind fun s1 =>
  (
   cond (decide (s1 < 0))
    (
    some (1, (IntKind.i64.wrap (s1 + 10000)))
    )
    (
    some (0, s1)
    )
   : Option (Int × Int)).bind fun (borrow2, s2) =>
  guardO (L2.length + [s2].length ≤ 4294967296) <|
  some (.inl (borrow2, (IntKind.i64.wrap (i1 + 1)), (L2 ++ [s2])))
  )
  (
  some (.inr L2)
  )
noncomputable def m_cocketref01_subD (a1 : (List Int)) (b1 : (List Int)) : Option (List Int) :=
 (
  (iter (m_cocketref01_subD_l1 a1 b1) (0, 0, [])).bind fun x_7 =>
  some x_7
  : Option (List Int)).bind fun L1 =>
 (m_cocketref01_trim L1).bind fun r1 =>
 some r1
noncomputable def m_cocketref01_divD_l2 (b1 : (List Int)) (r1 : (List Int)) : (Int × Int) → Option ((Int × Int) ⊕ Int) := fun (lo2, hi1) =>
 cond (decide (lo2 < hi1))
  (
  (m_cocketref01_trim [(IntKind.i64.wrap ((IntKind.i64.wrap ((IntKind.i64.wrap (lo2 + hi1)) + 1)).tdiv 2))]).bind fun r2 =>
  (m_cocketref01_mulD b1 r2).bind fun r3 =>
  (m_cocketref01_cmpD r3 r1).bind fun r4 =>
  cond (decide (r4 ≤ 0))
   (
   some (.inl ((IntKind.i64.wrap ((IntKind.i64.wrap ((IntKind.i64.wrap (lo2 + hi1)) + 1)).tdiv 2)), hi1))
   )
   (
   some (.inl (lo2, (IntKind.i64.wrap ((IntKind.i64.wrap ((IntKind.i64.wrap ((IntKind.i64.wrap (lo2 + hi1)) + 1)).tdiv 2)) - 1))))
   )
  )
  (
  some (.inr lo2)
  )
noncomputable def m_cocketref01_divD_l1 (a1 : (List Int)) (b1 : (List Int)) : ((List Int) × Int × (List Int)) → Option (((List Int) × Int × (List Int)) ⊕ ((List Int) × (List Int))) := fun (rem2, i1, L2) =>
 cond (decide (0 ≤ i1))
  (
  (
   (idx a1 i1).bind fun e1 =>
   guardO (1 + rem2.length ≤ 4294967296) <|
   (m_cocketref01_trim ([e1] ++ rem2)).bind fun r1 =>
   (
    (iter (m_cocketref01_divD_l2 b1 r1) (0, 9999)).bind fun x_28 =>
    some x_28
    : Option Int).bind fun lo1 =>
   (idx L2 i1).bind fun e2 =>
   (m_cocketref01_trim [lo1]).bind fun r5 =>
   (m_cocketref01_mulD b1 r5).bind fun r6 =>
   (m_cocketref01_subD r1 r6).bind fun r7 =>
   some (r7, (L2.set (i1).toNat lo1))
   : Option ((List Int) × (List Int))).bind fun (rem3, L3) =>
  some (.inl (rem3, (IntKind.i64.wrap (i1 - 1)), L3))
  )
  (
  some (.inr (rem2, L2))
  )
noncomputable def m_cocketref01_divD (a1 : (List Int)) (b1 : (List Int)) : Option ((List Int) × (List Int)) :=
 cond (decide ((b1.length : Int) = 0))
  (
  some ([], [])
  )
  (
  guardO (0 ≤ (a1.length : Int) ∧ (a1.length : Int) ≤ 4294967296) <|
  (
   (iter (m_cocketref01_divD_l1 a1 b1) ([], (IntKind.i64.wrap ((a1.length : Int) - 1)), (List.replicate ((a1.length : Int)).toNat (0 : Int)))).bind fun x_10 =>
   some x_10
   : Option ((List Int) × (List Int))).bind fun (rem1, L1) =>
  (m_cocketref01_trim L1).bind fun r8 =>
  some (r8, rem1)
  )
noncomputable def m_cocketref01_gcdD_l1 : ((List Int) × (List Int)) → Option (((List Int) × (List Int)) ⊕ (List Int)) := fun (a3, b2) =>
 cond (decide (0 < (b2.length : Int)))
  (
  (m_cocketref01_divD a3 b2).bind fun r1 =>
  some (.inl (b2, r1.2))
  )
  (
  some (.inr a3)
  )
noncomputable def m_cocketref01_gcdD (a1 : (List Int)) (b1 : (List Int)) : Option (List Int) :=
 (
  (iter m_cocketref01_gcdD_l1 (a1, b1)).bind fun x_7 =>
  some x_7
  : Option (List Int)).bind fun a2 =>
 some a2
noncomputable def m_cocketref01_addD_l1 (a1 : (List Int)) (b1 : (List Int)) : (Int × Int × (List Int)) → Option ((Int × Int × (List Int)) ⊕ (List Int)) := fun (carry1, i1, L2) =>
 cond (((decide (i1 < (a1.length : Int))) || (decide (i1 < (b1.length : Int)))) || (decide (0 < carry1)))
  (
  (
   cond (decide (i1 < (a1.length : Int)))
    (
    (idx a1 i1).bind fun e1 =>
    some (IntKind.i64.wrap (carry1 + e1))
    )
    (
    some carry1
    )
   : Option Int).bind fun s1 =>
  (
   cond (decide (i1 < (b1.length : Int)))
    (
    (idx b1 i1).bind fun e2 =>
    some (IntKind.i64.wrap (s1 + e2))
    )
    (
    some s1
    )
   : Option Int).bind fun s2 =>
  guardO (L2.length + [(s2.tmod 10000)].length ≤ 4294967296) <|
  some (.inl ((IntKind.i64.wrap (s2.tdiv 10000)), (IntKind.i64.wrap (i1 + 1)), (L2 ++ [(s2.tmod 10000)])))
  )
  (
  some (.inr L2)
  )
noncomputable def m_cocketref01_addD (a1 : (List Int)) (b1 : (List Int)) : Option (List Int) :=
 (
  (iter (m_cocketref01_addD_l1 a1 b1) (0, 0, [])).bind fun x_7 =>
  some x_7
  : Option (List Int)).bind fun L1 =>
 some L1
noncomputable def m_cocketref01_Over (a1 : Big) (b1 : Big) : Option (Big × Big) :=
 (m_cocketref01_divD a1.D b1.D).bind fun r1 =>
 cond (!a1.Neg)
  (
  (m_cocketref01_whole false r1.1).bind fun r2 =>
  (m_cocketref01_whole false r1.2).bind fun r3 =>
  some (r2, r3)
  )
  (
  cond (decide ((r1.2.length : Int) = 0))
   (
   (m_cocketref01_whole true r1.1).bind fun r4 =>
   some (r4, (⟨false, []⟩ : Big))
   )
   (
   (m_cocketref01_addD r1.1 [1]).bind fun r5 =>
   (m_cocketref01_whole true r5).bind fun r6 =>
   (m_cocketref01_subD b1.D r1.2).bind fun r7 =>
   (m_cocketref01_whole false r7).bind fun r8 =>
   some (r6, r8)
   )
  )
noncomputable def m_cocketref01_lowest (n1 : Big) (d1 : Big) : Option Q :=
 (
  cond d1.Neg
   (
   (m_cocketref01_Neg n1).bind fun r1 =>
   (m_cocketref01_Neg d1).bind fun r2 =>
   some (r1, r2)
   )
   (
   some (n1, d1)
   )
  : Option (Big × Big)).bind fun (c1, c2) =>
 (m_cocketref01_gcdD c1.D c2.D).bind fun r3 =>
 (m_cocketref01_whole false r3).bind fun r4 =>
 (m_cocketref01_Over c1 r4).bind fun r5 =>
 (m_cocketref01_Over c2 r4).bind fun r6 =>
 some (⟨r5.1, r6.1⟩ : Q)
noncomputable def m_cocketref01_Frac (n1 : Int) (d1 : Int) : Option Q :=
 (m_cocketref01_Of n1).bind fun r1 =>
 (m_cocketref01_Of d1).bind fun r2 =>
 (m_cocketref01_lowest r1 r2).bind fun r3 =>
 some r3
noncomputable def m_cocketref01_rate (o1 : Offer) : Option Q :=
 (m_cocketref01_Frac o1.Num o1.Den).bind fun r1 =>
 some r1
noncomputable def m_cocketref01_Times (a1 : Big) (b1 : Big) : Option Big :=
 (m_cocketref01_mulD a1.D b1.D).bind fun r1 =>
 (m_cocketref01_whole (!(a1.Neg == b1.Neg)) r1).bind fun r2 =>
 some r2
noncomputable def m_cocketref01_Mul (a1 : Q) (b1 : Q) : Option Q :=
 (m_cocketref01_Times a1.N b1.N).bind fun r1 =>
 (m_cocketref01_Times a1.D b1.D).bind fun r2 =>
 (m_cocketref01_lowest r1 r2).bind fun r3 =>
 some r3
noncomputable def m_cocketref01_Compare (a1 : Big) (b1 : Big) : Option Int :=
 cond (!(a1.Neg == b1.Neg))
  (
  cond a1.Neg
   (
   some (-1)
   )
   (
   some 1
   )
  )
  (
  (m_cocketref01_cmpD a1.D b1.D).bind fun r1 =>
  cond a1.Neg
   (
   some (IntKind.i64.wrap (0 - r1))
   )
   (
   some r1
   )
  )
noncomputable def m_cocketref01_Cmp (a1 : Q) (b1 : Q) : Option Int :=
 (m_cocketref01_Times a1.N b1.D).bind fun r1 =>
 (m_cocketref01_Times b1.N a1.D).bind fun r2 =>
 (m_cocketref01_Compare r1 r2).bind fun r3 =>
 some r3
noncomputable def m_cocketref01_better (r1 : Reach) (q1 : Q) : Option Bool :=
 ((cond (!r1.Is)
  (some true)
  (
   (m_cocketref01_Cmp q1 r1.Rate).bind fun r2 =>
   some (decide (0 < r2))
  )
 ) : Option Bool).bind fun b1 =>
 some b1
noncomputable def m_cocketref01_reaches_l2 (l1 : (List Offer)) (k1 : Int) (L2 : (List (List Reach))) : (Int × (List Reach)) → Option ((Int × (List Reach)) ⊕ (List Reach)) := fun (i1, L5) =>
 cond (decide (i1 < (l1.length : Int)))
  (
  (
   (idx L2 (IntKind.i64.wrap (k1 - 1))).bind fun e2 =>
   (idx l1 i1).bind fun e3 =>
   (idx e2 e3.To).bind fun e4 =>
   cond e4.Is
    (
    (idx l1 i1).bind fun e5 =>
    (m_cocketref01_rate e5).bind fun r2 =>
    (m_cocketref01_Mul r2 e4.Rate).bind fun r3 =>
    (idx l1 i1).bind fun e6 =>
    (idx L5 e6.From).bind fun e7 =>
    (m_cocketref01_better e7 r3).bind fun r4 =>
    cond r4
     (
     (idx l1 i1).bind fun e8 =>
     (idx L5 e8.From).bind fun e9 =>
     some (L5.set (e8.From).toNat (⟨true, r3⟩ : Reach))
     )
     (
     some L5
     )
    )
    (
    some L5
    )
   : Option (List Reach)).bind fun L6 =>
  some (.inl ((IntKind.i64.wrap (i1 + 1)), L6))
  )
  (
  some (.inr L5)
  )
noncomputable def m_cocketref01_reaches_l1 (n1 : Int) (l1 : (List Offer)) (most1 : Int) : (Int × (List (List Reach))) → Option ((Int × (List (List Reach))) ⊕ (List (List Reach))) := fun (k1, L2) =>
 cond (decide (k1 ≤ most1))
  (
  (
   guardO (0 ≤ n1 ∧ n1 ≤ 4294967296) <|
   (
    (iter (m_cocketref01_reaches_l2 l1 k1 L2) (0, (List.replicate (n1).toNat (⟨false, ⟨⟨false, []⟩, ⟨false, []⟩⟩⟩ : Reach)))).bind fun x_26 =>
    some x_26
    : Option (List Reach)).bind fun L4 =>
   guardO (L2.length + [L4].length ≤ 4294967296) <|
   some (L2 ++ [L4])
   : Option (List (List Reach))).bind fun L3 =>
  some (.inl ((IntKind.i64.wrap (k1 + 1)), L3))
  )
  (
  some (.inr L2)
  )
noncomputable def m_cocketref01_reaches (n1 : Int) (l1 : (List Offer)) (to1 : Int) (most1 : Int) : Option (List (List Reach)) :=
 guardO (0 ≤ n1 ∧ n1 ≤ 4294967296) <|
 (m_cocketref01_Frac 1 1).bind fun r1 =>
 (idx (List.replicate (n1).toNat (⟨false, ⟨⟨false, []⟩, ⟨false, []⟩⟩⟩ : Reach)) to1).bind fun e1 =>
 (
  (iter (m_cocketref01_reaches_l1 n1 l1 most1) (1, [((List.replicate (n1).toNat (⟨false, ⟨⟨false, []⟩, ⟨false, []⟩⟩⟩ : Reach)).set (to1).toNat (⟨true, r1⟩ : Reach))])).bind fun x_13 =>
  some x_13
  : Option (List (List Reach))).bind fun L1 =>
 some L1
noncomputable def m_cocketref01_gains (q1 : Q) (r1 : Reach) : Option Bool :=
 ((cond r1.Is
  (
   (m_cocketref01_Mul q1 r1.Rate).bind fun r2 =>
   (m_cocketref01_Frac 1 1).bind fun r3 =>
   (m_cocketref01_Cmp r2 r3).bind fun r4 =>
   some (decide (0 < r4))
  )
  (some false)
 ) : Option Bool).bind fun b1 =>
 some b1
noncomputable def m_cocketref01_closed_l2 (l1 : (List Offer)) (r1 : (List (List Reach))) (k1 : Int) (e6 : Offer) : (Int × (List Int) × Q) → Option ((Int × (List Int) × Q) ⊕ ((List Int) × Q)) := fun (i1, L3, c2) =>
 cond (decide (i1 < (l1.length : Int)))
  (
  (idx l1 i1).bind fun e7 =>
  cond (decide (e7.From = e6.To))
   (
   (m_cocketref01_rate e7).bind fun r4 =>
   (m_cocketref01_Mul c2 r4).bind fun r5 =>
   (idx r1 (IntKind.i64.wrap ((IntKind.i64.wrap (k1 - (L3.length : Int))) - 1))).bind fun e8 =>
   (idx e8 e7.To).bind fun e9 =>
   (m_cocketref01_gains r5 e9).bind fun r6 =>
   cond r6
    (
    (idx l1 i1).bind fun e10 =>
    (m_cocketref01_rate e10).bind fun r7 =>
    (m_cocketref01_Mul c2 r7).bind fun r8 =>
    guardO (L3.length + [i1].length ≤ 4294967296) <|
    some (.inr ((L3 ++ [i1]), r8))
    )
    (
    some (.inl ((IntKind.i64.wrap (i1 + 1)), L3, c2))
    )
   )
   (
   some (.inl ((IntKind.i64.wrap (i1 + 1)), L3, c2))
   )
  )
  (
  some (.inr (L3, c2))
  )
noncomputable def m_cocketref01_closed_l1 (l1 : (List Offer)) (r1 : (List (List Reach))) (k1 : Int) : ((List Int) × Q) → Option (((List Int) × Q) ⊕ (List Int)) := fun (L2, c1) =>
 cond (decide ((L2.length : Int) < k1))
  (
  (idx L2 (IntKind.i64.wrap ((L2.length : Int) - 1))).bind fun e5 =>
  (idx l1 e5).bind fun e6 =>
  (iter (m_cocketref01_closed_l2 l1 r1 k1 e6) (0, L2, c1)).bind fun x_43 =>
  some (.inl x_43)
  )
  (
  some (.inr L2)
  )
noncomputable def m_cocketref01_closed (l1 : (List Offer)) (r1 : (List (List Reach))) (first1 : Int) (k1 : Int) : Option ((List Int) × Bool) :=
 (idx l1 first1).bind fun e1 =>
 (m_cocketref01_rate e1).bind fun r2 =>
 (idx r1 (IntKind.i64.wrap (k1 - 1))).bind fun e2 =>
 (idx l1 first1).bind fun e3 =>
 (idx e2 e3.To).bind fun e4 =>
 (m_cocketref01_gains r2 e4).bind fun r3 =>
 cond (!r3)
  (
  some ([], false)
  )
  (
  (
   (iter (m_cocketref01_closed_l1 l1 r1 k1) ([first1], r2)).bind fun x_27 =>
   some x_27
   : Option (List Int)).bind fun L1 =>
  some (L1, true)
  )
noncomputable def m_cocketref01_gaining_l1 (n1 : Int) (l1 : (List Offer)) : (Int × (List (List (List Reach)))) → Option ((Int × (List (List (List Reach)))) ⊕ (List (List (List Reach)))) := fun (s1, L2) =>
 cond (decide (s1 < n1))
  (
  (m_cocketref01_reaches n1 l1 s1 n1).bind fun r1 =>
  guardO (L2.length + [r1].length ≤ 4294967296) <|
  some (.inl ((IntKind.i64.wrap (s1 + 1)), (L2 ++ [r1])))
  )
  (
  some (.inr L2)
  )
noncomputable def m_cocketref01_gaining_l3 (l1 : (List Offer)) (L1 : (List (List (List Reach)))) (k1 : Int) : Int → Option (Int ⊕ (Unit ⊕ ((List Int) × Bool))) := fun i1 =>
 cond (decide (i1 < (l1.length : Int)))
  (
  (idx l1 i1).bind fun e1 =>
  (idx L1 e1.From).bind fun e2 =>
  (m_cocketref01_closed l1 e2 i1 k1).bind fun r2 =>
  cond r2.2
   (
   some (.inr (.inr (r2.1, true)))
   )
   (
   some (.inl (IntKind.i64.wrap (i1 + 1)))
   )
  )
  (
  some (.inr (.inl ()))
  )
noncomputable def m_cocketref01_gaining_l2 (n1 : Int) (l1 : (List Offer)) (L1 : (List (List (List Reach)))) : Int → Option (Int ⊕ (Unit ⊕ ((List Int) × Bool))) := fun k1 =>
 cond (decide (k1 ≤ n1))
  (
  (
  (
   (
   (iter (m_cocketref01_gaining_l3 l1 L1 k1) 0).bind fun x_30 => match x_30 with
     | (.inl y1) => some (.inl y1)
     | (.inr y2) => some (.inr y2)
   )
   : Option (Unit ⊕ ((List Int) × Bool))).bind fun o_24 => match o_24 with
    | (.inl _) =>
      some (.inl (IntKind.i64.wrap (k1 + 1)))
    | (.inr y3) => some (.inr (.inr y3))
  )
  )
  (
  some (.inr (.inl ()))
  )
noncomputable def m_cocketref01_gaining (n1 : Int) (l1 : (List Offer)) : Option ((List Int) × Bool) :=
 (
  (iter (m_cocketref01_gaining_l1 n1 l1) (0, [])).bind fun x_7 =>
  some x_7
  : Option (List (List (List Reach)))).bind fun L1 =>
 (
 (
  (
  (iter (m_cocketref01_gaining_l2 n1 l1 L1) 2).bind fun x_20 => match x_20 with
    | (.inl y4) => some (.inl y4)
    | (.inr y5) => some (.inr y5)
  )
  : Option (Unit ⊕ ((List Int) × Bool))).bind fun o_14 => match o_14 with
   | (.inl _) =>
     some ([], false)
   | (.inr y6) => some y6
 )
noncomputable def m_cocketref01_best_l1 (n1 : Int) (from1 : Int) (r1 : (List (List Reach))) : (Int × Int × Reach) → Option ((Int × Int × Reach) ⊕ (Int × Reach)) := fun (many2, k1, c2) =>
 cond (decide (k1 < n1))
  (
  (
   (idx r1 k1).bind fun e1 =>
   (idx e1 from1).bind fun e2 =>
   cond e2.Is
    (
    (m_cocketref01_better c2 e2.Rate).bind fun r2 =>
    cond r2
     (
     (idx r1 k1).bind fun e3 =>
     (idx e3 from1).bind fun e4 =>
     some (k1, e4)
     )
     (
     some (many2, c2)
     )
    )
    (
    some (many2, c2)
    )
   : Option (Int × Reach)).bind fun (many3, c3) =>
  some (.inl (many3, (IntKind.i64.wrap (k1 + 1)), c3))
  )
  (
  some (.inr (many2, c2))
  )
noncomputable def m_cocketref01_best_l3 (l1 : (List Offer)) (r1 : (List (List Reach))) (many1 : Int) (at1 : Int) : (Int × (List Int) × Q) → Option ((Int × (List Int) × Q) ⊕ (Int × (List Int) × Q)) := fun (i1, L3, c5) =>
 cond (decide (i1 < (l1.length : Int)))
  (
  (idx r1 (IntKind.i64.wrap ((IntKind.i64.wrap (many1 - (L3.length : Int))) - 1))).bind fun e7 =>
  (idx l1 i1).bind fun e8 =>
  (idx e7 e8.To).bind fun e9 =>
  (idx l1 i1).bind fun e10 =>
  cond (decide (e10.From = at1))
   (
   cond e9.Is
    (
    (m_cocketref01_rate e10).bind fun r3 =>
    (m_cocketref01_Mul r3 e9.Rate).bind fun r4 =>
    (m_cocketref01_Cmp r4 c5).bind fun r5 =>
    cond (decide (r5 = 0))
     (
     guardO (L3.length + [i1].length ≤ 4294967296) <|
     (idx l1 i1).bind fun e11 =>
     some (.inr (e11.To, (L3 ++ [i1]), e9.Rate))
     )
     (
     some (.inl ((IntKind.i64.wrap (i1 + 1)), L3, c5))
     )
    )
    (
    some (.inl ((IntKind.i64.wrap (i1 + 1)), L3, c5))
    )
   )
   (
   some (.inl ((IntKind.i64.wrap (i1 + 1)), L3, c5))
   )
  )
  (
  some (.inr (at1, L3, c5))
  )
noncomputable def m_cocketref01_best_l2 (l1 : (List Offer)) (r1 : (List (List Reach))) (many1 : Int) : (Int × (List Int) × Q) → Option ((Int × (List Int) × Q) ⊕ (List Int)) := fun (at1, L2, c4) =>
 cond (decide ((L2.length : Int) < many1))
  (
  (iter (m_cocketref01_best_l3 l1 r1 many1 at1) (0, L2, c4)).bind fun x_58 =>
  some (.inl x_58)
  )
  (
  some (.inr L2)
  )
noncomputable def m_cocketref01_best (n1 : Int) (l1 : (List Offer)) (from1 : Int) (to1 : Int) : Option (Q × (List Int) × Bool) :=
 (m_cocketref01_reaches n1 l1 to1 (IntKind.i64.wrap (n1 - 1))).bind fun r1 =>
 (
  (iter (m_cocketref01_best_l1 n1 from1 r1) (0, 0, (⟨false, (⟨(⟨false, []⟩ : Big), (⟨false, []⟩ : Big)⟩ : Q)⟩ : Reach))).bind fun x_8 =>
  some x_8
  : Option (Int × Reach)).bind fun (many1, c1) =>
 cond (!c1.Is)
  (
  some ((⟨(⟨false, []⟩ : Big), (⟨false, []⟩ : Big)⟩ : Q), [], false)
  )
  (
  (
   (iter (m_cocketref01_best_l2 l1 r1 many1) (from1, [], c1.Rate)).bind fun x_50 =>
   some x_50
   : Option (List Int)).bind fun L1 =>
  some (c1.Rate, L1, true)
  )
noncomputable def m_rate_gcd_l1 : (Int × Int) → Option ((Int × Int) ⊕ Int) := fun (a3, b2) =>
 cond (decide (¬b2 = 0))
  (
  guardO (b2 ≠ 0) <|
  some (.inl (b2, (a3.tmod b2)))
  )
  (
  some (.inr a3)
  )
noncomputable def m_rate_gcd (a1 : Int) (b1 : Int) : Option Int :=
 (
  (iter m_rate_gcd_l1 (a1, b1)).bind fun x_7 =>
  some x_7
  : Option Int).bind fun a2 =>
 some a2
noncomputable def m_rate_times (a1 : Ratio) (b1 : Ratio) : Option Ratio :=
 (m_rate_gcd a1.Num b1.Den).bind fun r1 =>
 (m_rate_gcd b1.Num a1.Den).bind fun r2 =>
 guardO (r1 ≠ 0) <|
 guardO (r2 ≠ 0) <|
 guardO (r2 ≠ 0) <|
 guardO (r1 ≠ 0) <|
 some (⟨(IntKind.i64.wrap ((IntKind.i64.wrap (a1.Num.tdiv r1)) * (IntKind.i64.wrap (b1.Num.tdiv r2)))), (IntKind.i64.wrap ((IntKind.i64.wrap (a1.Den.tdiv r2)) * (IntKind.i64.wrap (b1.Den.tdiv r1))))⟩ : Ratio)
noncomputable def m_rate_ratio (a1 : Int) (b1 : Int) : Option Ratio :=
 (m_rate_gcd a1 b1).bind fun r1 =>
 guardO (r1 ≠ 0) <|
 guardO (r1 ≠ 0) <|
 some (⟨(IntKind.i64.wrap (a1.tdiv r1)), (IntKind.i64.wrap (b1.tdiv r1))⟩ : Ratio)
noncomputable def m_rate_Needless_l1 (n1 : Int) (offers1 : (List Offer)) : (Int × (List Int)) → Option ((Int × (List Int)) ⊕ (List Int)) := fun (v1, L2) =>
 cond (decide (v1 < (offers1.length : Int)))
  (
  (
   (idx offers1 v1).bind fun e1 =>
   (cloneO offers1).bind fun r3 =>
   guardO (delOk r3 v1 (IntKind.i64.wrap (v1 + 1)) = true) <|
   (m_rate_market_best (⟨n1, (List.take (delN r3 v1 (IntKind.i64.wrap (v1 + 1))) (delP r3 v1 (IntKind.i64.wrap (v1 + 1))))⟩ : Market) e1.From e1.To).bind fun r4 =>
   cond r4.2
    (
    (m_rate_ratio e1.Num e1.Den).bind fun r5 =>
    (m_rate_above r5 r4.1.rate).bind fun r6 =>
    cond (!r6)
     (
     guardO (L2.length + [v1].length ≤ 4294967296) <|
     some (L2 ++ [v1])
     )
     (
     some L2
     )
    )
    (
    some L2
    )
   : Option (List Int)).bind fun L3 =>
  some (.inl ((IntKind.i64.wrap (v1 + 1)), L3))
  )
  (
  some (.inr L2)
  )
noncomputable def m_rate_Needless (n1 : Int) (offers1 : (List Offer)) : Option ((List Int) × Int) :=
 (m_rate_of n1 offers1).bind fun r1 =>
 cond (decide (¬r1.2 = 0))
  (
  some ([], r1.2)
  )
  (
  (m_rate_market_round r1.1).bind fun r2 =>
  cond (!(r2).isEmpty)
   (
   some ([], 11)
   )
   (
   (
    (iter (m_rate_Needless_l1 n1 offers1) (0, [])).bind fun x_12 =>
    some x_12
    : Option (List Int)).bind fun L1 =>
   some (L1, 0)
   )
  )
noncomputable def m_cocketref01_Needless_l1 (n1 : Int) (l1 : (List Offer)) : (Int × (List Int)) → Option ((Int × (List Int)) ⊕ (List Int)) := fun (i1, L2) =>
 cond (decide (i1 < (l1.length : Int)))
  (
  (
   guardO (0 ≤ 0 ∧ 0 ≤ i1 ∧ i1 ≤ (l1.length : Int)) <|
   guardO (0 + (l1.take ((i1 : Int) - 0).toNat).length ≤ 4294967296) <|
   guardO (0 ≤ (IntKind.i64.wrap (i1 + 1)) ∧ (IntKind.i64.wrap (i1 + 1)) ≤ (l1.length : Int) ∧ (l1.length : Int) ≤ (l1.length : Int)) <|
   guardO ((0 + (l1.take ((i1 : Int) - 0).toNat).length) + ((l1.drop ((IntKind.i64.wrap (i1 + 1))).toNat).take (((l1.length : Int) : Int) - (IntKind.i64.wrap (i1 + 1))).toNat).length ≤ 4294967296) <|
   (idx l1 i1).bind fun e1 =>
   (m_cocketref01_best n1 ((l1.take ((i1 : Int) - 0).toNat) ++ ((l1.drop ((IntKind.i64.wrap (i1 + 1))).toNat).take (((l1.length : Int) : Int) - (IntKind.i64.wrap (i1 + 1))).toNat)) e1.From e1.To).bind fun r3 =>
   cond r3.2.2
    (
    (idx l1 i1).bind fun e2 =>
    (m_cocketref01_rate e2).bind fun r4 =>
    (m_cocketref01_Cmp r3.1 r4).bind fun r5 =>
    cond (decide (0 ≤ r5))
     (
     guardO (L2.length + [i1].length ≤ 4294967296) <|
     some (L2 ++ [i1])
     )
     (
     some L2
     )
    )
    (
    some L2
    )
   : Option (List Int)).bind fun L3 =>
  some (.inl ((IntKind.i64.wrap (i1 + 1)), L3))
  )
  (
  some (.inr L2)
  )
noncomputable def m_cocketref01_Needless (n1 : Int) (l1 : (List Offer)) : Option ((List Int) × Int) :=
 (m_cocketref01_Good n1 l1).bind fun r1 =>
 cond (decide (¬r1 = 0))
  (
  some ([], r1)
  )
  (
  (m_cocketref01_gaining n1 l1).bind fun r2 =>
  cond r2.2
   (
   some ([], 11)
   )
   (
   (
    (iter (m_cocketref01_Needless_l1 n1 l1) (0, [])).bind fun x_13 =>
    some x_13
    : Option (List Int)).bind fun L1 =>
   some (L1, 0)
   )
  )
noncomputable def m_cocketlaw01_RateNeedless (n1 : Int) (l1 : (List Offer)) : Option Bool :=
 (m_cocketlaw01_few l1).bind fun r1 =>
 cond (!r1)
  (
  (m_cocketlaw01_alive).bind fun r2 =>
  some r2
  )
  (
  (m_rate_Needless n1 l1).bind fun r3 =>
  (m_cocketref01_Needless n1 l1).bind fun r4 =>
  (m_cocketlaw01_same r3.1 r4.1).bind fun r5 =>
  ((cond (r5 && (decide (r3.2 = r4.2)))
   (
    (m_cocketlaw01_alive).bind fun r6 =>
    some r6
   )
   (some false)
  ) : Option Bool).bind fun b1 =>
  some b1
  )
end Go.Pv

namespace Go.Pv.Tryd
open Go.Proofs
noncomputable def T1 : Ty := (tyOf Tryd.prog 1).getD ⟨.invalid, 0, 0, none⟩
@[go_sem] theorem ty1 : tyOf Tryd.prog 1 = some T1 := by kernel_rfl
@[go_sem] theorem T1_desc : T1.desc = .func #[] #[] false := by kernel_rfl
@[go_sem] theorem T1_size : T1.size = 1 := by kernel_rfl
@[go_sem] theorem T1_bytes : T1.bytes = 8 := by kernel_rfl
@[go_sem] theorem T1_zero : zeroPV T1 = some (.d .nilfunc) := by kernel_rfl
@[go_sem] theorem T1_ok : zeroOk T1 = true := by kernel_rfl
noncomputable def T2 : Ty := (tyOf Tryd.prog 2).getD ⟨.invalid, 0, 0, none⟩
@[go_sem] theorem ty2 : tyOf Tryd.prog 2 = some T2 := by kernel_rfl
@[go_sem] theorem T2_desc : T2.desc = .int .i64 := by kernel_rfl
@[go_sem] theorem T2_size : T2.size = 1 := by kernel_rfl
@[go_sem] theorem T2_bytes : T2.bytes = 8 := by kernel_rfl
@[go_sem] theorem T2_zero : zeroPV T2 = some (.d (.int .i64 0)) := by kernel_rfl
@[go_sem] theorem T2_ok : zeroOk T2 = true := by kernel_rfl
noncomputable def T3 : Ty := (tyOf Tryd.prog 3).getD ⟨.invalid, 0, 0, none⟩
@[go_sem] theorem ty3 : tyOf Tryd.prog 3 = some T3 := by kernel_rfl
@[go_sem] theorem T3_desc : T3.desc = .int .i64 := by kernel_rfl
@[go_sem] theorem T3_size : T3.size = 1 := by kernel_rfl
@[go_sem] theorem T3_bytes : T3.bytes = 8 := by kernel_rfl
@[go_sem] theorem T3_zero : zeroPV T3 = some (.d (.int .i64 0)) := by kernel_rfl
@[go_sem] theorem T3_ok : zeroOk T3 = true := by kernel_rfl
noncomputable def T4 : Ty := (tyOf Tryd.prog 4).getD ⟨.invalid, 0, 0, none⟩
@[go_sem] theorem ty4 : tyOf Tryd.prog 4 = some T4 := by kernel_rfl
@[go_sem] theorem T4_desc : T4.desc = .bool := by kernel_rfl
@[go_sem] theorem T4_size : T4.size = 1 := by kernel_rfl
@[go_sem] theorem T4_bytes : T4.bytes = 1 := by kernel_rfl
@[go_sem] theorem T4_zero : zeroPV T4 = some (.d (.bool false)) := by kernel_rfl
@[go_sem] theorem T4_ok : zeroOk T4 = true := by kernel_rfl
noncomputable def T5 : Ty := (tyOf Tryd.prog 5).getD ⟨.invalid, 0, 0, none⟩
@[go_sem] theorem ty5 : tyOf Tryd.prog 5 = some T5 := by kernel_rfl
@[go_sem] theorem T5_desc : T5.desc = .int .u8 := by kernel_rfl
@[go_sem] theorem T5_size : T5.size = 1 := by kernel_rfl
@[go_sem] theorem T5_bytes : T5.bytes = 1 := by kernel_rfl
@[go_sem] theorem T5_zero : zeroPV T5 = some (.d (.int .u8 0)) := by kernel_rfl
@[go_sem] theorem T5_ok : zeroOk T5 = true := by kernel_rfl
noncomputable def T9 : Ty := (tyOf Tryd.prog 9).getD ⟨.invalid, 0, 0, none⟩
@[go_sem] theorem ty9 : tyOf Tryd.prog 9 = some T9 := by kernel_rfl
@[go_sem] theorem T9_desc : T9.desc = .string := by kernel_rfl
@[go_sem] theorem T9_size : T9.size = 1 := by kernel_rfl
@[go_sem] theorem T9_bytes : T9.bytes = 16 := by kernel_rfl
@[go_sem] theorem T9_zero : zeroPV T9 = some (.d (.str ⟨#[]⟩)) := by kernel_rfl
@[go_sem] theorem T9_ok : zeroOk T9 = true := by kernel_rfl
noncomputable def T12 : Ty := (tyOf Tryd.prog 12).getD ⟨.invalid, 0, 0, none⟩
@[go_sem] theorem ty12 : tyOf Tryd.prog 12 = some T12 := by kernel_rfl
@[go_sem] theorem T12_desc : T12.desc = .int .u64 := by kernel_rfl
@[go_sem] theorem T12_size : T12.size = 1 := by kernel_rfl
@[go_sem] theorem T12_bytes : T12.bytes = 8 := by kernel_rfl
@[go_sem] theorem T12_zero : zeroPV T12 = some (.d (.int .u64 0)) := by kernel_rfl
@[go_sem] theorem T12_ok : zeroOk T12 = true := by kernel_rfl
noncomputable def T13 : Ty := (tyOf Tryd.prog 13).getD ⟨.invalid, 0, 0, none⟩
@[go_sem] theorem ty13 : tyOf Tryd.prog 13 = some T13 := by kernel_rfl
noncomputable def fs13 : Array Field := match T13.desc with | .struct fs => fs | _ => #[]
@[go_sem] theorem T13_desc : T13.desc = .struct fs13 := by kernel_rfl
noncomputable def fs13_0 : Field := fs13.getD 0 default
@[go_sem] theorem fs13_at0 : fs13[0]? = some fs13_0 := by kernel_rfl
@[go_sem] theorem fs13_0_type : fs13_0.type = 9 := by kernel_rfl
@[go_sem] theorem fs13_0_off : fs13_0.offset = 0 := by kernel_rfl
@[go_sem] theorem fo13_0 : fieldOf Tryd.prog 13 0 = some (0, 1) := by kernel_rfl
noncomputable def fs13_1 : Field := fs13.getD 1 default
@[go_sem] theorem fs13_at1 : fs13[1]? = some fs13_1 := by kernel_rfl
@[go_sem] theorem fs13_1_type : fs13_1.type = 12 := by kernel_rfl
@[go_sem] theorem fs13_1_off : fs13_1.offset = 1 := by kernel_rfl
@[go_sem] theorem fo13_1 : fieldOf Tryd.prog 13 1 = some (1, 1) := by kernel_rfl
@[go_sem] theorem pl13 : placesOf Tryd.prog fs13.toList = some [(0, 1), (1, 1)] := by kernel_rfl
@[go_sem] theorem T13_size : T13.size = 2 := by kernel_rfl
@[go_sem] theorem T13_bytes : T13.bytes = 24 := by kernel_rfl
-- zero of 13: strings or floats
@[go_sem] theorem T13_ok : zeroOk T13 = true := by kernel_rfl
noncomputable def T21 : Ty := (tyOf Tryd.prog 21).getD ⟨.invalid, 0, 0, none⟩
@[go_sem] theorem ty21 : tyOf Tryd.prog 21 = some T21 := by kernel_rfl
@[go_sem] theorem T21_desc : T21.desc = .int .i32 := by kernel_rfl
@[go_sem] theorem T21_size : T21.size = 1 := by kernel_rfl
@[go_sem] theorem T21_bytes : T21.bytes = 4 := by kernel_rfl
@[go_sem] theorem T21_zero : zeroPV T21 = some (.d (.int .i32 0)) := by kernel_rfl
@[go_sem] theorem T21_ok : zeroOk T21 = true := by kernel_rfl
noncomputable def T22 : Ty := (tyOf Tryd.prog 22).getD ⟨.invalid, 0, 0, none⟩
@[go_sem] theorem ty22 : tyOf Tryd.prog 22 = some T22 := by kernel_rfl
@[go_sem] theorem T22_desc : T22.desc = .slice 43 := by kernel_rfl
@[go_sem] theorem es22 : elemSize Tryd.prog 22 = some 4 := by kernel_rfl
@[go_sem] theorem T22_size : T22.size = 1 := by kernel_rfl
@[go_sem] theorem T22_bytes : T22.bytes = 24 := by kernel_rfl
@[go_sem] theorem T22_zero : zeroPV T22 = some (.d .nilslice) := by kernel_rfl
@[go_sem] theorem T22_ok : zeroOk T22 = true := by kernel_rfl
noncomputable def T23 : Ty := (tyOf Tryd.prog 23).getD ⟨.invalid, 0, 0, none⟩
@[go_sem] theorem ty23 : tyOf Tryd.prog 23 = some T23 := by kernel_rfl
@[go_sem] theorem T23_desc : T23.desc = .func #[22] #[4] false := by kernel_rfl
@[go_sem] theorem T23_size : T23.size = 1 := by kernel_rfl
@[go_sem] theorem T23_bytes : T23.bytes = 8 := by kernel_rfl
@[go_sem] theorem T23_zero : zeroPV T23 = some (.d .nilfunc) := by kernel_rfl
@[go_sem] theorem T23_ok : zeroOk T23 = true := by kernel_rfl
noncomputable def T24 : Ty := (tyOf Tryd.prog 24).getD ⟨.invalid, 0, 0, none⟩
@[go_sem] theorem ty24 : tyOf Tryd.prog 24 = some T24 := by kernel_rfl
@[go_sem] theorem T24_desc : T24.desc = .func #[] #[4] false := by kernel_rfl
@[go_sem] theorem T24_size : T24.size = 1 := by kernel_rfl
@[go_sem] theorem T24_bytes : T24.bytes = 8 := by kernel_rfl
@[go_sem] theorem T24_zero : zeroPV T24 = some (.d .nilfunc) := by kernel_rfl
@[go_sem] theorem T24_ok : zeroOk T24 = true := by kernel_rfl
noncomputable def T25 : Ty := (tyOf Tryd.prog 25).getD ⟨.invalid, 0, 0, none⟩
@[go_sem] theorem ty25 : tyOf Tryd.prog 25 = some T25 := by kernel_rfl
noncomputable def fs25 : Array Field := match T25.desc with | .struct fs => fs | _ => #[]
@[go_sem] theorem T25_desc : T25.desc = .struct fs25 := by kernel_rfl
noncomputable def fs25_0 : Field := fs25.getD 0 default
@[go_sem] theorem fs25_at0 : fs25[0]? = some fs25_0 := by kernel_rfl
@[go_sem] theorem fs25_0_type : fs25_0.type = 3 := by kernel_rfl
@[go_sem] theorem fs25_0_off : fs25_0.offset = 0 := by kernel_rfl
@[go_sem] theorem fo25_0 : fieldOf Tryd.prog 25 0 = some (0, 1) := by kernel_rfl
@[go_sem] theorem fs25_0_nm : (fs25_0.name == "_") = false := by kernel_rfl
noncomputable def fs25_1 : Field := fs25.getD 1 default
@[go_sem] theorem fs25_at1 : fs25[1]? = some fs25_1 := by kernel_rfl
@[go_sem] theorem fs25_1_type : fs25_1.type = 3 := by kernel_rfl
@[go_sem] theorem fs25_1_off : fs25_1.offset = 1 := by kernel_rfl
@[go_sem] theorem fo25_1 : fieldOf Tryd.prog 25 1 = some (1, 1) := by kernel_rfl
@[go_sem] theorem fs25_1_nm : (fs25_1.name == "_") = false := by kernel_rfl
@[go_sem] theorem sih25 : Tryd.prog.stoodInHeld 25 = false := by kernel_rfl
@[go_sem] theorem egt25 : Tryd.prog.eqGuardType Tryd.prog.depth 25 = false := by kernel_rfl
@[go_sem] theorem pl25 : placesOf Tryd.prog fs25.toList = some [(0, 1), (1, 1)] := by kernel_rfl
@[go_sem] theorem T25_size : T25.size = 2 := by kernel_rfl
@[go_sem] theorem T25_bytes : T25.bytes = 16 := by kernel_rfl
@[go_sem] theorem T25_cells : zeroCells T25.zero = some [.d (.int .i64 0), .d (.int .i64 0)] := by kernel_rfl
@[go_sem] theorem T25_zero : zeroPV T25 = some (.d (.agg [(.int .i64 0), (.int .i64 0)])) := by kernel_rfl
@[go_sem] theorem T25_ok : zeroOk T25 = true := by kernel_rfl
noncomputable def T26 : Ty := (tyOf Tryd.prog 26).getD ⟨.invalid, 0, 0, none⟩
@[go_sem] theorem ty26 : tyOf Tryd.prog 26 = some T26 := by kernel_rfl
noncomputable def fs26 : Array Field := match T26.desc with | .struct fs => fs | _ => #[]
@[go_sem] theorem T26_desc : T26.desc = .struct fs26 := by kernel_rfl
noncomputable def fs26_0 : Field := fs26.getD 0 default
@[go_sem] theorem fs26_at0 : fs26[0]? = some fs26_0 := by kernel_rfl
@[go_sem] theorem fs26_0_type : fs26_0.type = 3 := by kernel_rfl
@[go_sem] theorem fs26_0_off : fs26_0.offset = 0 := by kernel_rfl
@[go_sem] theorem fo26_0 : fieldOf Tryd.prog 26 0 = some (0, 1) := by kernel_rfl
@[go_sem] theorem fs26_0_nm : (fs26_0.name == "_") = false := by kernel_rfl
noncomputable def fs26_1 : Field := fs26.getD 1 default
@[go_sem] theorem fs26_at1 : fs26[1]? = some fs26_1 := by kernel_rfl
@[go_sem] theorem fs26_1_type : fs26_1.type = 3 := by kernel_rfl
@[go_sem] theorem fs26_1_off : fs26_1.offset = 1 := by kernel_rfl
@[go_sem] theorem fo26_1 : fieldOf Tryd.prog 26 1 = some (1, 1) := by kernel_rfl
@[go_sem] theorem fs26_1_nm : (fs26_1.name == "_") = false := by kernel_rfl
theorem fsl26 : fs26.toList = [fs26_0, fs26_1] := by kernel_rfl
@[go_sem] theorem sih26 : Tryd.prog.stoodInHeld 26 = false := by kernel_rfl
@[go_sem] theorem egt26 : Tryd.prog.eqGuardType Tryd.prog.depth 26 = false := by kernel_rfl
@[go_sem] theorem pl26 : placesOf Tryd.prog fs26.toList = some [(0, 1), (1, 1)] := by kernel_rfl
@[go_sem] theorem T26_size : T26.size = 2 := by kernel_rfl
@[go_sem] theorem T26_bytes : T26.bytes = 16 := by kernel_rfl
@[go_sem] theorem T26_cells : zeroCells T26.zero = some [.d (.int .i64 0), .d (.int .i64 0)] := by kernel_rfl
@[go_sem] theorem T26_zero : zeroPV T26 = some (.d (.agg [(.int .i64 0), (.int .i64 0)])) := by kernel_rfl
@[go_sem] theorem T26_ok : zeroOk T26 = true := by kernel_rfl
noncomputable def T27 : Ty := (tyOf Tryd.prog 27).getD ⟨.invalid, 0, 0, none⟩
@[go_sem] theorem ty27 : tyOf Tryd.prog 27 = some T27 := by kernel_rfl
@[go_sem] theorem T27_desc : T27.desc = .slice 3 := by kernel_rfl
@[go_sem] theorem es27 : elemSize Tryd.prog 27 = some 1 := by kernel_rfl
@[go_sem] theorem T27_size : T27.size = 1 := by kernel_rfl
@[go_sem] theorem T27_bytes : T27.bytes = 24 := by kernel_rfl
@[go_sem] theorem T27_zero : zeroPV T27 = some (.d .nilslice) := by kernel_rfl
@[go_sem] theorem T27_ok : zeroOk T27 = true := by kernel_rfl
noncomputable def T28 : Ty := (tyOf Tryd.prog 28).getD ⟨.invalid, 0, 0, none⟩
@[go_sem] theorem ty28 : tyOf Tryd.prog 28 = some T28 := by kernel_rfl
@[go_sem] theorem T28_desc : T28.desc = .int .i64 := by kernel_rfl
@[go_sem] theorem T28_size : T28.size = 1 := by kernel_rfl
@[go_sem] theorem T28_bytes : T28.bytes = 8 := by kernel_rfl
@[go_sem] theorem T28_zero : zeroPV T28 = some (.d (.int .i64 0)) := by kernel_rfl
@[go_sem] theorem T28_ok : zeroOk T28 = true := by kernel_rfl
noncomputable def T30 : Ty := (tyOf Tryd.prog 30).getD ⟨.invalid, 0, 0, none⟩
@[go_sem] theorem ty30 : tyOf Tryd.prog 30 = some T30 := by kernel_rfl
@[go_sem] theorem T30_desc : T30.desc = .func #[3, 22, 3, 3] #[26, 27, 28] false := by kernel_rfl
@[go_sem] theorem T30_size : T30.size = 1 := by kernel_rfl
@[go_sem] theorem T30_bytes : T30.bytes = 8 := by kernel_rfl
@[go_sem] theorem T30_zero : zeroPV T30 = some (.d .nilfunc) := by kernel_rfl
@[go_sem] theorem T30_ok : zeroOk T30 = true := by kernel_rfl
noncomputable def T31 : Ty := (tyOf Tryd.prog 31).getD ⟨.invalid, 0, 0, none⟩
@[go_sem] theorem ty31 : tyOf Tryd.prog 31 = some T31 := by kernel_rfl
@[go_sem] theorem T31_desc : T31.desc = .func #[27, 27] #[4] false := by kernel_rfl
@[go_sem] theorem T31_size : T31.size = 1 := by kernel_rfl
@[go_sem] theorem T31_bytes : T31.bytes = 8 := by kernel_rfl
@[go_sem] theorem T31_zero : zeroPV T31 = some (.d .nilfunc) := by kernel_rfl
@[go_sem] theorem T31_ok : zeroOk T31 = true := by kernel_rfl
noncomputable def T32 : Ty := (tyOf Tryd.prog 32).getD ⟨.invalid, 0, 0, none⟩
@[go_sem] theorem ty32 : tyOf Tryd.prog 32 = some T32 := by kernel_rfl
@[go_sem] theorem T32_desc : T32.desc = .func #[22, 22] #[4] false := by kernel_rfl
@[go_sem] theorem T32_size : T32.size = 1 := by kernel_rfl
@[go_sem] theorem T32_bytes : T32.bytes = 8 := by kernel_rfl
@[go_sem] theorem T32_zero : zeroPV T32 = some (.d .nilfunc) := by kernel_rfl
@[go_sem] theorem T32_ok : zeroOk T32 = true := by kernel_rfl
noncomputable def T33 : Ty := (tyOf Tryd.prog 33).getD ⟨.invalid, 0, 0, none⟩
@[go_sem] theorem ty33 : tyOf Tryd.prog 33 = some T33 := by kernel_rfl
@[go_sem] theorem T33_desc : T33.desc = .func #[3, 22, 3, 3] #[4] false := by kernel_rfl
@[go_sem] theorem T33_size : T33.size = 1 := by kernel_rfl
@[go_sem] theorem T33_bytes : T33.bytes = 8 := by kernel_rfl
@[go_sem] theorem T33_zero : zeroPV T33 = some (.d .nilfunc) := by kernel_rfl
@[go_sem] theorem T33_ok : zeroOk T33 = true := by kernel_rfl
noncomputable def T34 : Ty := (tyOf Tryd.prog 34).getD ⟨.invalid, 0, 0, none⟩
@[go_sem] theorem ty34 : tyOf Tryd.prog 34 = some T34 := by kernel_rfl
@[go_sem] theorem T34_desc : T34.desc = .slice 26 := by kernel_rfl
@[go_sem] theorem es34 : elemSize Tryd.prog 34 = some 2 := by kernel_rfl
@[go_sem] theorem T34_size : T34.size = 1 := by kernel_rfl
@[go_sem] theorem T34_bytes : T34.bytes = 24 := by kernel_rfl
@[go_sem] theorem T34_zero : zeroPV T34 = some (.d .nilslice) := by kernel_rfl
@[go_sem] theorem T34_ok : zeroOk T34 = true := by kernel_rfl
noncomputable def T36 : Ty := (tyOf Tryd.prog 36).getD ⟨.invalid, 0, 0, none⟩
@[go_sem] theorem ty36 : tyOf Tryd.prog 36 = some T36 := by kernel_rfl
@[go_sem] theorem T36_desc : T36.desc = .func #[3, 22] #[34, 28] false := by kernel_rfl
@[go_sem] theorem T36_size : T36.size = 1 := by kernel_rfl
@[go_sem] theorem T36_bytes : T36.bytes = 8 := by kernel_rfl
@[go_sem] theorem T36_zero : zeroPV T36 = some (.d .nilfunc) := by kernel_rfl
@[go_sem] theorem T36_ok : zeroOk T36 = true := by kernel_rfl
noncomputable def T37 : Ty := (tyOf Tryd.prog 37).getD ⟨.invalid, 0, 0, none⟩
@[go_sem] theorem ty37 : tyOf Tryd.prog 37 = some T37 := by kernel_rfl
@[go_sem] theorem T37_desc : T37.desc = .func #[34, 34] #[4] false := by kernel_rfl
@[go_sem] theorem T37_size : T37.size = 1 := by kernel_rfl
@[go_sem] theorem T37_bytes : T37.bytes = 8 := by kernel_rfl
@[go_sem] theorem T37_zero : zeroPV T37 = some (.d .nilfunc) := by kernel_rfl
@[go_sem] theorem T37_ok : zeroOk T37 = true := by kernel_rfl
noncomputable def T38 : Ty := (tyOf Tryd.prog 38).getD ⟨.invalid, 0, 0, none⟩
@[go_sem] theorem ty38 : tyOf Tryd.prog 38 = some T38 := by kernel_rfl
@[go_sem] theorem T38_desc : T38.desc = .func #[3, 22] #[4] false := by kernel_rfl
@[go_sem] theorem T38_size : T38.size = 1 := by kernel_rfl
@[go_sem] theorem T38_bytes : T38.bytes = 8 := by kernel_rfl
@[go_sem] theorem T38_zero : zeroPV T38 = some (.d .nilfunc) := by kernel_rfl
@[go_sem] theorem T38_ok : zeroOk T38 = true := by kernel_rfl
noncomputable def T40 : Ty := (tyOf Tryd.prog 40).getD ⟨.invalid, 0, 0, none⟩
@[go_sem] theorem ty40 : tyOf Tryd.prog 40 = some T40 := by kernel_rfl
@[go_sem] theorem T40_desc : T40.desc = .func #[3, 22] #[27, 28] false := by kernel_rfl
@[go_sem] theorem T40_size : T40.size = 1 := by kernel_rfl
@[go_sem] theorem T40_bytes : T40.bytes = 8 := by kernel_rfl
@[go_sem] theorem T40_zero : zeroPV T40 = some (.d .nilfunc) := by kernel_rfl
@[go_sem] theorem T40_ok : zeroOk T40 = true := by kernel_rfl
noncomputable def T41 : Ty := (tyOf Tryd.prog 41).getD ⟨.invalid, 0, 0, none⟩
@[go_sem] theorem ty41 : tyOf Tryd.prog 41 = some T41 := by kernel_rfl
@[go_sem] theorem T41_desc : T41.desc = .func #[3, 22] #[28] false := by kernel_rfl
@[go_sem] theorem T41_size : T41.size = 1 := by kernel_rfl
@[go_sem] theorem T41_bytes : T41.bytes = 8 := by kernel_rfl
@[go_sem] theorem T41_zero : zeroPV T41 = some (.d .nilfunc) := by kernel_rfl
@[go_sem] theorem T41_ok : zeroOk T41 = true := by kernel_rfl
noncomputable def T42 : Ty := (tyOf Tryd.prog 42).getD ⟨.invalid, 0, 0, none⟩
@[go_sem] theorem ty42 : tyOf Tryd.prog 42 = some T42 := by kernel_rfl
noncomputable def fs42 : Array Field := match T42.desc with | .struct fs => fs | _ => #[]
@[go_sem] theorem T42_desc : T42.desc = .struct fs42 := by kernel_rfl
noncomputable def fs42_0 : Field := fs42.getD 0 default
@[go_sem] theorem fs42_at0 : fs42[0]? = some fs42_0 := by kernel_rfl
@[go_sem] theorem fs42_0_type : fs42_0.type = 3 := by kernel_rfl
@[go_sem] theorem fs42_0_off : fs42_0.offset = 0 := by kernel_rfl
@[go_sem] theorem fo42_0 : fieldOf Tryd.prog 42 0 = some (0, 1) := by kernel_rfl
@[go_sem] theorem fs42_0_nm : (fs42_0.name == "_") = false := by kernel_rfl
noncomputable def fs42_1 : Field := fs42.getD 1 default
@[go_sem] theorem fs42_at1 : fs42[1]? = some fs42_1 := by kernel_rfl
@[go_sem] theorem fs42_1_type : fs42_1.type = 3 := by kernel_rfl
@[go_sem] theorem fs42_1_off : fs42_1.offset = 1 := by kernel_rfl
@[go_sem] theorem fo42_1 : fieldOf Tryd.prog 42 1 = some (1, 1) := by kernel_rfl
@[go_sem] theorem fs42_1_nm : (fs42_1.name == "_") = false := by kernel_rfl
noncomputable def fs42_2 : Field := fs42.getD 2 default
@[go_sem] theorem fs42_at2 : fs42[2]? = some fs42_2 := by kernel_rfl
@[go_sem] theorem fs42_2_type : fs42_2.type = 3 := by kernel_rfl
@[go_sem] theorem fs42_2_off : fs42_2.offset = 2 := by kernel_rfl
@[go_sem] theorem fo42_2 : fieldOf Tryd.prog 42 2 = some (2, 1) := by kernel_rfl
@[go_sem] theorem fs42_2_nm : (fs42_2.name == "_") = false := by kernel_rfl
noncomputable def fs42_3 : Field := fs42.getD 3 default
@[go_sem] theorem fs42_at3 : fs42[3]? = some fs42_3 := by kernel_rfl
@[go_sem] theorem fs42_3_type : fs42_3.type = 3 := by kernel_rfl
@[go_sem] theorem fs42_3_off : fs42_3.offset = 3 := by kernel_rfl
@[go_sem] theorem fo42_3 : fieldOf Tryd.prog 42 3 = some (3, 1) := by kernel_rfl
@[go_sem] theorem fs42_3_nm : (fs42_3.name == "_") = false := by kernel_rfl
@[go_sem] theorem sih42 : Tryd.prog.stoodInHeld 42 = false := by kernel_rfl
@[go_sem] theorem egt42 : Tryd.prog.eqGuardType Tryd.prog.depth 42 = false := by kernel_rfl
@[go_sem] theorem pl42 : placesOf Tryd.prog fs42.toList = some [(0, 1), (1, 1), (2, 1), (3, 1)] := by kernel_rfl
@[go_sem] theorem T42_size : T42.size = 4 := by kernel_rfl
@[go_sem] theorem T42_bytes : T42.bytes = 32 := by kernel_rfl
@[go_sem] theorem T42_cells : zeroCells T42.zero = some [.d (.int .i64 0), .d (.int .i64 0), .d (.int .i64 0), .d (.int .i64 0)] := by kernel_rfl
@[go_sem] theorem T42_zero : zeroPV T42 = some (.d (.agg [(.int .i64 0), (.int .i64 0), (.int .i64 0), (.int .i64 0)])) := by kernel_rfl
@[go_sem] theorem T42_ok : zeroOk T42 = true := by kernel_rfl
noncomputable def T43 : Ty := (tyOf Tryd.prog 43).getD ⟨.invalid, 0, 0, none⟩
@[go_sem] theorem ty43 : tyOf Tryd.prog 43 = some T43 := by kernel_rfl
noncomputable def fs43 : Array Field := match T43.desc with | .struct fs => fs | _ => #[]
@[go_sem] theorem T43_desc : T43.desc = .struct fs43 := by kernel_rfl
noncomputable def fs43_0 : Field := fs43.getD 0 default
@[go_sem] theorem fs43_at0 : fs43[0]? = some fs43_0 := by kernel_rfl
@[go_sem] theorem fs43_0_type : fs43_0.type = 3 := by kernel_rfl
@[go_sem] theorem fs43_0_off : fs43_0.offset = 0 := by kernel_rfl
@[go_sem] theorem fo43_0 : fieldOf Tryd.prog 43 0 = some (0, 1) := by kernel_rfl
@[go_sem] theorem fs43_0_nm : (fs43_0.name == "_") = false := by kernel_rfl
noncomputable def fs43_1 : Field := fs43.getD 1 default
@[go_sem] theorem fs43_at1 : fs43[1]? = some fs43_1 := by kernel_rfl
@[go_sem] theorem fs43_1_type : fs43_1.type = 3 := by kernel_rfl
@[go_sem] theorem fs43_1_off : fs43_1.offset = 1 := by kernel_rfl
@[go_sem] theorem fo43_1 : fieldOf Tryd.prog 43 1 = some (1, 1) := by kernel_rfl
@[go_sem] theorem fs43_1_nm : (fs43_1.name == "_") = false := by kernel_rfl
noncomputable def fs43_2 : Field := fs43.getD 2 default
@[go_sem] theorem fs43_at2 : fs43[2]? = some fs43_2 := by kernel_rfl
@[go_sem] theorem fs43_2_type : fs43_2.type = 3 := by kernel_rfl
@[go_sem] theorem fs43_2_off : fs43_2.offset = 2 := by kernel_rfl
@[go_sem] theorem fo43_2 : fieldOf Tryd.prog 43 2 = some (2, 1) := by kernel_rfl
@[go_sem] theorem fs43_2_nm : (fs43_2.name == "_") = false := by kernel_rfl
noncomputable def fs43_3 : Field := fs43.getD 3 default
@[go_sem] theorem fs43_at3 : fs43[3]? = some fs43_3 := by kernel_rfl
@[go_sem] theorem fs43_3_type : fs43_3.type = 3 := by kernel_rfl
@[go_sem] theorem fs43_3_off : fs43_3.offset = 3 := by kernel_rfl
@[go_sem] theorem fo43_3 : fieldOf Tryd.prog 43 3 = some (3, 1) := by kernel_rfl
@[go_sem] theorem fs43_3_nm : (fs43_3.name == "_") = false := by kernel_rfl
@[go_sem] theorem sih43 : Tryd.prog.stoodInHeld 43 = false := by kernel_rfl
@[go_sem] theorem egt43 : Tryd.prog.eqGuardType Tryd.prog.depth 43 = false := by kernel_rfl
@[go_sem] theorem pl43 : placesOf Tryd.prog fs43.toList = some [(0, 1), (1, 1), (2, 1), (3, 1)] := by kernel_rfl
@[go_sem] theorem T43_size : T43.size = 4 := by kernel_rfl
@[go_sem] theorem T43_bytes : T43.bytes = 32 := by kernel_rfl
@[go_sem] theorem T43_cells : zeroCells T43.zero = some [.d (.int .i64 0), .d (.int .i64 0), .d (.int .i64 0), .d (.int .i64 0)] := by kernel_rfl
@[go_sem] theorem T43_zero : zeroPV T43 = some (.d (.agg [(.int .i64 0), (.int .i64 0), (.int .i64 0), (.int .i64 0)])) := by kernel_rfl
@[go_sem] theorem T43_ok : zeroOk T43 = true := by kernel_rfl
noncomputable def T44 : Ty := (tyOf Tryd.prog 44).getD ⟨.invalid, 0, 0, none⟩
@[go_sem] theorem ty44 : tyOf Tryd.prog 44 = some T44 := by kernel_rfl
@[go_sem] theorem T44_desc : T44.desc = .func #[3, 22, 3, 3, 5] #[4] false := by kernel_rfl
@[go_sem] theorem T44_size : T44.size = 1 := by kernel_rfl
@[go_sem] theorem T44_bytes : T44.bytes = 8 := by kernel_rfl
@[go_sem] theorem T44_zero : zeroPV T44 = some (.d .nilfunc) := by kernel_rfl
@[go_sem] theorem T44_ok : zeroOk T44 = true := by kernel_rfl
noncomputable def T46 : Ty := (tyOf Tryd.prog 46).getD ⟨.invalid, 0, 0, none⟩
@[go_sem] theorem ty46 : tyOf Tryd.prog 46 = some T46 := by kernel_rfl
@[go_sem] theorem T46_desc : T46.desc = .func #[3, 22, 3, 3] #[26, 28] false := by kernel_rfl
@[go_sem] theorem T46_size : T46.size = 1 := by kernel_rfl
@[go_sem] theorem T46_bytes : T46.bytes = 8 := by kernel_rfl
@[go_sem] theorem T46_zero : zeroPV T46 = some (.d .nilfunc) := by kernel_rfl
@[go_sem] theorem T46_ok : zeroOk T46 = true := by kernel_rfl
noncomputable def T47 : Ty := (tyOf Tryd.prog 47).getD ⟨.invalid, 0, 0, none⟩
@[go_sem] theorem ty47 : tyOf Tryd.prog 47 = some T47 := by kernel_rfl
@[go_sem] theorem T47_desc : T47.desc = .func #[26] #[4] false := by kernel_rfl
@[go_sem] theorem T47_size : T47.size = 1 := by kernel_rfl
@[go_sem] theorem T47_bytes : T47.bytes = 8 := by kernel_rfl
@[go_sem] theorem T47_zero : zeroPV T47 = some (.d .nilfunc) := by kernel_rfl
@[go_sem] theorem T47_ok : zeroOk T47 = true := by kernel_rfl
noncomputable def T48 : Ty := (tyOf Tryd.prog 48).getD ⟨.invalid, 0, 0, none⟩
@[go_sem] theorem ty48 : tyOf Tryd.prog 48 = some T48 := by kernel_rfl
@[go_sem] theorem T48_desc : T48.desc = .func #[26, 26] #[4] false := by kernel_rfl
@[go_sem] theorem T48_size : T48.size = 1 := by kernel_rfl
@[go_sem] theorem T48_bytes : T48.bytes = 8 := by kernel_rfl
@[go_sem] theorem T48_zero : zeroPV T48 = some (.d .nilfunc) := by kernel_rfl
@[go_sem] theorem T48_ok : zeroOk T48 = true := by kernel_rfl
noncomputable def T50 : Ty := (tyOf Tryd.prog 50).getD ⟨.invalid, 0, 0, none⟩
@[go_sem] theorem ty50 : tyOf Tryd.prog 50 = some T50 := by kernel_rfl
@[go_sem] theorem T50_desc : T50.desc = .func #[3, 22, 27, 3] #[3, 28] false := by kernel_rfl
@[go_sem] theorem T50_size : T50.size = 1 := by kernel_rfl
@[go_sem] theorem T50_bytes : T50.bytes = 8 := by kernel_rfl
@[go_sem] theorem T50_zero : zeroPV T50 = some (.d .nilfunc) := by kernel_rfl
@[go_sem] theorem T50_ok : zeroOk T50 = true := by kernel_rfl
noncomputable def T51 : Ty := (tyOf Tryd.prog 51).getD ⟨.invalid, 0, 0, none⟩
@[go_sem] theorem ty51 : tyOf Tryd.prog 51 = some T51 := by kernel_rfl
@[go_sem] theorem T51_desc : T51.desc = .func #[3, 22, 27, 3] #[4] false := by kernel_rfl
@[go_sem] theorem T51_size : T51.size = 1 := by kernel_rfl
@[go_sem] theorem T51_bytes : T51.bytes = 8 := by kernel_rfl
@[go_sem] theorem T51_zero : zeroPV T51 = some (.d .nilfunc) := by kernel_rfl
@[go_sem] theorem T51_ok : zeroOk T51 = true := by kernel_rfl
noncomputable def T53 : Ty := (tyOf Tryd.prog 53).getD ⟨.invalid, 0, 0, none⟩
@[go_sem] theorem ty53 : tyOf Tryd.prog 53 = some T53 := by kernel_rfl
@[go_sem] theorem T53_desc : T53.desc = .func #[3, 22, 34] #[4, 28] false := by kernel_rfl
@[go_sem] theorem T53_size : T53.size = 1 := by kernel_rfl
@[go_sem] theorem T53_bytes : T53.bytes = 8 := by kernel_rfl
@[go_sem] theorem T53_zero : zeroPV T53 = some (.d .nilfunc) := by kernel_rfl
@[go_sem] theorem T53_ok : zeroOk T53 = true := by kernel_rfl
noncomputable def T54 : Ty := (tyOf Tryd.prog 54).getD ⟨.invalid, 0, 0, none⟩
@[go_sem] theorem ty54 : tyOf Tryd.prog 54 = some T54 := by kernel_rfl
@[go_sem] theorem T54_desc : T54.desc = .func #[3, 22, 34] #[4] false := by kernel_rfl
@[go_sem] theorem T54_size : T54.size = 1 := by kernel_rfl
@[go_sem] theorem T54_bytes : T54.bytes = 8 := by kernel_rfl
@[go_sem] theorem T54_zero : zeroPV T54 = some (.d .nilfunc) := by kernel_rfl
@[go_sem] theorem T54_ok : zeroOk T54 = true := by kernel_rfl
noncomputable def T55 : Ty := (tyOf Tryd.prog 55).getD ⟨.invalid, 0, 0, none⟩
@[go_sem] theorem ty55 : tyOf Tryd.prog 55 = some T55 := by kernel_rfl
@[go_sem] theorem T55_desc : T55.desc = .func #[59, 59] #[3] false := by kernel_rfl
@[go_sem] theorem T55_size : T55.size = 1 := by kernel_rfl
@[go_sem] theorem T55_bytes : T55.bytes = 8 := by kernel_rfl
@[go_sem] theorem T55_zero : zeroPV T55 = some (.d .nilfunc) := by kernel_rfl
@[go_sem] theorem T55_ok : zeroOk T55 = true := by kernel_rfl
noncomputable def T56 : Ty := (tyOf Tryd.prog 56).getD ⟨.invalid, 0, 0, none⟩
@[go_sem] theorem ty56 : tyOf Tryd.prog 56 = some T56 := by kernel_rfl
noncomputable def fs56 : Array Field := match T56.desc with | .struct fs => fs | _ => #[]
@[go_sem] theorem T56_desc : T56.desc = .struct fs56 := by kernel_rfl
noncomputable def fs56_0 : Field := fs56.getD 0 default
@[go_sem] theorem fs56_at0 : fs56[0]? = some fs56_0 := by kernel_rfl
@[go_sem] theorem fs56_0_type : fs56_0.type = 4 := by kernel_rfl
@[go_sem] theorem fs56_0_off : fs56_0.offset = 0 := by kernel_rfl
@[go_sem] theorem fo56_0 : fieldOf Tryd.prog 56 0 = some (0, 1) := by kernel_rfl
noncomputable def fs56_1 : Field := fs56.getD 1 default
@[go_sem] theorem fs56_at1 : fs56[1]? = some fs56_1 := by kernel_rfl
@[go_sem] theorem fs56_1_type : fs56_1.type = 27 := by kernel_rfl
@[go_sem] theorem fs56_1_off : fs56_1.offset = 1 := by kernel_rfl
@[go_sem] theorem fo56_1 : fieldOf Tryd.prog 56 1 = some (1, 1) := by kernel_rfl
@[go_sem] theorem pl56 : placesOf Tryd.prog fs56.toList = some [(0, 1), (1, 1)] := by kernel_rfl
@[go_sem] theorem T56_size : T56.size = 2 := by kernel_rfl
@[go_sem] theorem T56_bytes : T56.bytes = 32 := by kernel_rfl
@[go_sem] theorem T56_cells : zeroCells T56.zero = some [.d (.bool false), .d .nilslice] := by kernel_rfl
@[go_sem] theorem T56_zero : zeroPV T56 = some (.d (.agg [(.bool false), .nilslice])) := by kernel_rfl
@[go_sem] theorem T56_ok : zeroOk T56 = true := by kernel_rfl
noncomputable def T57 : Ty := (tyOf Tryd.prog 57).getD ⟨.invalid, 0, 0, none⟩
@[go_sem] theorem ty57 : tyOf Tryd.prog 57 = some T57 := by kernel_rfl
noncomputable def fs57 : Array Field := match T57.desc with | .struct fs => fs | _ => #[]
@[go_sem] theorem T57_desc : T57.desc = .struct fs57 := by kernel_rfl
noncomputable def fs57_0 : Field := fs57.getD 0 default
@[go_sem] theorem fs57_at0 : fs57[0]? = some fs57_0 := by kernel_rfl
@[go_sem] theorem fs57_0_type : fs57_0.type = 4 := by kernel_rfl
@[go_sem] theorem fs57_0_off : fs57_0.offset = 0 := by kernel_rfl
@[go_sem] theorem fo57_0 : fieldOf Tryd.prog 57 0 = some (0, 1) := by kernel_rfl
noncomputable def fs57_1 : Field := fs57.getD 1 default
@[go_sem] theorem fs57_at1 : fs57[1]? = some fs57_1 := by kernel_rfl
@[go_sem] theorem fs57_1_type : fs57_1.type = 27 := by kernel_rfl
@[go_sem] theorem fs57_1_off : fs57_1.offset = 1 := by kernel_rfl
@[go_sem] theorem fo57_1 : fieldOf Tryd.prog 57 1 = some (1, 1) := by kernel_rfl
@[go_sem] theorem pl57 : placesOf Tryd.prog fs57.toList = some [(0, 1), (1, 1)] := by kernel_rfl
@[go_sem] theorem T57_size : T57.size = 2 := by kernel_rfl
@[go_sem] theorem T57_bytes : T57.bytes = 32 := by kernel_rfl
@[go_sem] theorem T57_cells : zeroCells T57.zero = some [.d (.bool false), .d .nilslice] := by kernel_rfl
@[go_sem] theorem T57_zero : zeroPV T57 = some (.d (.agg [(.bool false), .nilslice])) := by kernel_rfl
@[go_sem] theorem T57_ok : zeroOk T57 = true := by kernel_rfl
noncomputable def T58 : Ty := (tyOf Tryd.prog 58).getD ⟨.invalid, 0, 0, none⟩
@[go_sem] theorem ty58 : tyOf Tryd.prog 58 = some T58 := by kernel_rfl
noncomputable def fs58 : Array Field := match T58.desc with | .struct fs => fs | _ => #[]
@[go_sem] theorem T58_desc : T58.desc = .struct fs58 := by kernel_rfl
noncomputable def fs58_0 : Field := fs58.getD 0 default
@[go_sem] theorem fs58_at0 : fs58[0]? = some fs58_0 := by kernel_rfl
@[go_sem] theorem fs58_0_type : fs58_0.type = 57 := by kernel_rfl
@[go_sem] theorem fs58_0_off : fs58_0.offset = 0 := by kernel_rfl
@[go_sem] theorem fo58_0 : fieldOf Tryd.prog 58 0 = some (0, 2) := by kernel_rfl
noncomputable def fs58_1 : Field := fs58.getD 1 default
@[go_sem] theorem fs58_at1 : fs58[1]? = some fs58_1 := by kernel_rfl
@[go_sem] theorem fs58_1_type : fs58_1.type = 57 := by kernel_rfl
@[go_sem] theorem fs58_1_off : fs58_1.offset = 2 := by kernel_rfl
@[go_sem] theorem fo58_1 : fieldOf Tryd.prog 58 1 = some (2, 2) := by kernel_rfl
@[go_sem] theorem pl58 : placesOf Tryd.prog fs58.toList = some [(0, 2), (2, 2)] := by kernel_rfl
@[go_sem] theorem T58_size : T58.size = 4 := by kernel_rfl
@[go_sem] theorem T58_bytes : T58.bytes = 64 := by kernel_rfl
@[go_sem] theorem T58_cells : zeroCells T58.zero = some [.d (.bool false), .d .nilslice, .d (.bool false), .d .nilslice] := by kernel_rfl
@[go_sem] theorem T58_zero : zeroPV T58 = some (.d (.agg [(.bool false), .nilslice, (.bool false), .nilslice])) := by kernel_rfl
@[go_sem] theorem T58_ok : zeroOk T58 = true := by kernel_rfl
noncomputable def T59 : Ty := (tyOf Tryd.prog 59).getD ⟨.invalid, 0, 0, none⟩
@[go_sem] theorem ty59 : tyOf Tryd.prog 59 = some T59 := by kernel_rfl
noncomputable def fs59 : Array Field := match T59.desc with | .struct fs => fs | _ => #[]
@[go_sem] theorem T59_desc : T59.desc = .struct fs59 := by kernel_rfl
noncomputable def fs59_0 : Field := fs59.getD 0 default
@[go_sem] theorem fs59_at0 : fs59[0]? = some fs59_0 := by kernel_rfl
@[go_sem] theorem fs59_0_type : fs59_0.type = 57 := by kernel_rfl
@[go_sem] theorem fs59_0_off : fs59_0.offset = 0 := by kernel_rfl
@[go_sem] theorem fo59_0 : fieldOf Tryd.prog 59 0 = some (0, 2) := by kernel_rfl
noncomputable def fs59_1 : Field := fs59.getD 1 default
@[go_sem] theorem fs59_at1 : fs59[1]? = some fs59_1 := by kernel_rfl
@[go_sem] theorem fs59_1_type : fs59_1.type = 57 := by kernel_rfl
@[go_sem] theorem fs59_1_off : fs59_1.offset = 2 := by kernel_rfl
@[go_sem] theorem fo59_1 : fieldOf Tryd.prog 59 1 = some (2, 2) := by kernel_rfl
@[go_sem] theorem pl59 : placesOf Tryd.prog fs59.toList = some [(0, 2), (2, 2)] := by kernel_rfl
@[go_sem] theorem T59_size : T59.size = 4 := by kernel_rfl
@[go_sem] theorem T59_bytes : T59.bytes = 64 := by kernel_rfl
@[go_sem] theorem T59_cells : zeroCells T59.zero = some [.d (.bool false), .d .nilslice, .d (.bool false), .d .nilslice] := by kernel_rfl
@[go_sem] theorem T59_zero : zeroPV T59 = some (.d (.agg [(.bool false), .nilslice, (.bool false), .nilslice])) := by kernel_rfl
@[go_sem] theorem T59_ok : zeroOk T59 = true := by kernel_rfl
noncomputable def T60 : Ty := (tyOf Tryd.prog 60).getD ⟨.invalid, 0, 0, none⟩
@[go_sem] theorem ty60 : tyOf Tryd.prog 60 = some T60 := by kernel_rfl
@[go_sem] theorem T60_desc : T60.desc = .func #[26] #[59] false := by kernel_rfl
@[go_sem] theorem T60_size : T60.size = 1 := by kernel_rfl
@[go_sem] theorem T60_bytes : T60.bytes = 8 := by kernel_rfl
@[go_sem] theorem T60_zero : zeroPV T60 = some (.d .nilfunc) := by kernel_rfl
@[go_sem] theorem T60_ok : zeroOk T60 = true := by kernel_rfl
noncomputable def T61 : Ty := (tyOf Tryd.prog 61).getD ⟨.invalid, 0, 0, none⟩
@[go_sem] theorem ty61 : tyOf Tryd.prog 61 = some T61 := by kernel_rfl
@[go_sem] theorem T61_desc : T61.desc = .func #[26, 26] #[59] false := by kernel_rfl
@[go_sem] theorem T61_size : T61.size = 1 := by kernel_rfl
@[go_sem] theorem T61_bytes : T61.bytes = 8 := by kernel_rfl
@[go_sem] theorem T61_zero : zeroPV T61 = some (.d .nilfunc) := by kernel_rfl
@[go_sem] theorem T61_ok : zeroOk T61 = true := by kernel_rfl
noncomputable def T62 : Ty := (tyOf Tryd.prog 62).getD ⟨.invalid, 0, 0, none⟩
@[go_sem] theorem ty62 : tyOf Tryd.prog 62 = some T62 := by kernel_rfl
@[go_sem] theorem T62_desc : T62.desc = .func #[3, 3] #[59] false := by kernel_rfl
@[go_sem] theorem T62_size : T62.size = 1 := by kernel_rfl
@[go_sem] theorem T62_bytes : T62.bytes = 8 := by kernel_rfl
@[go_sem] theorem T62_zero : zeroPV T62 = some (.d .nilfunc) := by kernel_rfl
@[go_sem] theorem T62_ok : zeroOk T62 = true := by kernel_rfl
noncomputable def T63 : Ty := (tyOf Tryd.prog 63).getD ⟨.invalid, 0, 0, none⟩
@[go_sem] theorem ty63 : tyOf Tryd.prog 63 = some T63 := by kernel_rfl
@[go_sem] theorem T63_desc : T63.desc = .func #[3, 22, 3, 3, 3, 34] #[4] false := by kernel_rfl
@[go_sem] theorem T63_size : T63.size = 1 := by kernel_rfl
@[go_sem] theorem T63_bytes : T63.bytes = 8 := by kernel_rfl
@[go_sem] theorem T63_zero : zeroPV T63 = some (.d .nilfunc) := by kernel_rfl
@[go_sem] theorem T63_ok : zeroOk T63 = true := by kernel_rfl
noncomputable def T64 : Ty := (tyOf Tryd.prog 64).getD ⟨.invalid, 0, 0, none⟩
@[go_sem] theorem ty64 : tyOf Tryd.prog 64 = some T64 := by kernel_rfl
@[go_sem] theorem T64_desc : T64.desc = .func #[22, 27] #[4] false := by kernel_rfl
@[go_sem] theorem T64_size : T64.size = 1 := by kernel_rfl
@[go_sem] theorem T64_bytes : T64.bytes = 8 := by kernel_rfl
@[go_sem] theorem T64_zero : zeroPV T64 = some (.d .nilfunc) := by kernel_rfl
@[go_sem] theorem T64_ok : zeroOk T64 = true := by kernel_rfl
noncomputable def T65 : Ty := (tyOf Tryd.prog 65).getD ⟨.invalid, 0, 0, none⟩
@[go_sem] theorem ty65 : tyOf Tryd.prog 65 = some T65 := by kernel_rfl
@[go_sem] theorem T65_desc : T65.desc = .func #[59, 59] #[59] false := by kernel_rfl
@[go_sem] theorem T65_size : T65.size = 1 := by kernel_rfl
@[go_sem] theorem T65_bytes : T65.bytes = 8 := by kernel_rfl
@[go_sem] theorem T65_zero : zeroPV T65 = some (.d .nilfunc) := by kernel_rfl
@[go_sem] theorem T65_ok : zeroOk T65 = true := by kernel_rfl
noncomputable def T66 : Ty := (tyOf Tryd.prog 66).getD ⟨.invalid, 0, 0, none⟩
@[go_sem] theorem ty66 : tyOf Tryd.prog 66 = some T66 := by kernel_rfl
@[go_sem] theorem T66_desc : T66.desc = .func #[3, 22, 27] #[4, 28] false := by kernel_rfl
@[go_sem] theorem T66_size : T66.size = 1 := by kernel_rfl
@[go_sem] theorem T66_bytes : T66.bytes = 8 := by kernel_rfl
@[go_sem] theorem T66_zero : zeroPV T66 = some (.d .nilfunc) := by kernel_rfl
@[go_sem] theorem T66_ok : zeroOk T66 = true := by kernel_rfl
noncomputable def T67 : Ty := (tyOf Tryd.prog 67).getD ⟨.invalid, 0, 0, none⟩
@[go_sem] theorem ty67 : tyOf Tryd.prog 67 = some T67 := by kernel_rfl
@[go_sem] theorem T67_desc : T67.desc = .func #[22] #[22] false := by kernel_rfl
@[go_sem] theorem T67_size : T67.size = 1 := by kernel_rfl
@[go_sem] theorem T67_bytes : T67.bytes = 8 := by kernel_rfl
@[go_sem] theorem T67_zero : zeroPV T67 = some (.d .nilfunc) := by kernel_rfl
@[go_sem] theorem T67_ok : zeroOk T67 = true := by kernel_rfl
noncomputable def T68 : Ty := (tyOf Tryd.prog 68).getD ⟨.invalid, 0, 0, none⟩
@[go_sem] theorem ty68 : tyOf Tryd.prog 68 = some T68 := by kernel_rfl
@[go_sem] theorem T68_desc : T68.desc = .func #[3, 22, 27, 34] #[4] false := by kernel_rfl
@[go_sem] theorem T68_size : T68.size = 1 := by kernel_rfl
@[go_sem] theorem T68_bytes : T68.bytes = 8 := by kernel_rfl
@[go_sem] theorem T68_zero : zeroPV T68 = some (.d .nilfunc) := by kernel_rfl
@[go_sem] theorem T68_ok : zeroOk T68 = true := by kernel_rfl
noncomputable def T69 : Ty := (tyOf Tryd.prog 69).getD ⟨.invalid, 0, 0, none⟩
@[go_sem] theorem ty69 : tyOf Tryd.prog 69 = some T69 := by kernel_rfl
@[go_sem] theorem T69_desc : T69.desc = .func #[] #[22] false := by kernel_rfl
@[go_sem] theorem T69_size : T69.size = 1 := by kernel_rfl
@[go_sem] theorem T69_bytes : T69.bytes = 8 := by kernel_rfl
@[go_sem] theorem T69_zero : zeroPV T69 = some (.d .nilfunc) := by kernel_rfl
@[go_sem] theorem T69_ok : zeroOk T69 = true := by kernel_rfl
noncomputable def T71 : Ty := (tyOf Tryd.prog 71).getD ⟨.invalid, 0, 0, none⟩
@[go_sem] theorem ty71 : tyOf Tryd.prog 71 = some T71 := by kernel_rfl
@[go_sem] theorem T71_desc : T71.desc = .func #[3, 22] #[27, 4] false := by kernel_rfl
@[go_sem] theorem T71_size : T71.size = 1 := by kernel_rfl
@[go_sem] theorem T71_bytes : T71.bytes = 8 := by kernel_rfl
@[go_sem] theorem T71_zero : zeroPV T71 = some (.d .nilfunc) := by kernel_rfl
@[go_sem] theorem T71_ok : zeroOk T71 = true := by kernel_rfl
noncomputable def T73 : Ty := (tyOf Tryd.prog 73).getD ⟨.invalid, 0, 0, none⟩
@[go_sem] theorem ty73 : tyOf Tryd.prog 73 = some T73 := by kernel_rfl
@[go_sem] theorem T73_desc : T73.desc = .func #[3, 22, 3, 3] #[59, 27, 4] false := by kernel_rfl
@[go_sem] theorem T73_size : T73.size = 1 := by kernel_rfl
@[go_sem] theorem T73_bytes : T73.bytes = 8 := by kernel_rfl
@[go_sem] theorem T73_zero : zeroPV T73 = some (.d .nilfunc) := by kernel_rfl
@[go_sem] theorem T73_ok : zeroOk T73 = true := by kernel_rfl
noncomputable def T75 : Ty := (tyOf Tryd.prog 75).getD ⟨.invalid, 0, 0, none⟩
@[go_sem] theorem ty75 : tyOf Tryd.prog 75 = some T75 := by kernel_rfl
@[go_sem] theorem T75_desc : T75.desc = .func #[59, 3] #[26, 4] false := by kernel_rfl
@[go_sem] theorem T75_size : T75.size = 1 := by kernel_rfl
@[go_sem] theorem T75_bytes : T75.bytes = 8 := by kernel_rfl
@[go_sem] theorem T75_zero : zeroPV T75 = some (.d .nilfunc) := by kernel_rfl
@[go_sem] theorem T75_ok : zeroOk T75 = true := by kernel_rfl
noncomputable def T76 : Ty := (tyOf Tryd.prog 76).getD ⟨.invalid, 0, 0, none⟩
@[go_sem] theorem ty76 : tyOf Tryd.prog 76 = some T76 := by kernel_rfl
noncomputable def fs76 : Array Field := match T76.desc with | .struct fs => fs | _ => #[]
@[go_sem] theorem T76_desc : T76.desc = .struct fs76 := by kernel_rfl
noncomputable def fs76_0 : Field := fs76.getD 0 default
@[go_sem] theorem fs76_at0 : fs76[0]? = some fs76_0 := by kernel_rfl
@[go_sem] theorem fs76_0_type : fs76_0.type = 3 := by kernel_rfl
@[go_sem] theorem fs76_0_off : fs76_0.offset = 0 := by kernel_rfl
@[go_sem] theorem fo76_0 : fieldOf Tryd.prog 76 0 = some (0, 1) := by kernel_rfl
noncomputable def fs76_1 : Field := fs76.getD 1 default
@[go_sem] theorem fs76_at1 : fs76[1]? = some fs76_1 := by kernel_rfl
@[go_sem] theorem fs76_1_type : fs76_1.type = 22 := by kernel_rfl
@[go_sem] theorem fs76_1_off : fs76_1.offset = 1 := by kernel_rfl
@[go_sem] theorem fo76_1 : fieldOf Tryd.prog 76 1 = some (1, 1) := by kernel_rfl
@[go_sem] theorem pl76 : placesOf Tryd.prog fs76.toList = some [(0, 1), (1, 1)] := by kernel_rfl
@[go_sem] theorem T76_size : T76.size = 2 := by kernel_rfl
@[go_sem] theorem T76_bytes : T76.bytes = 32 := by kernel_rfl
@[go_sem] theorem T76_cells : zeroCells T76.zero = some [.d (.int .i64 0), .d .nilslice] := by kernel_rfl
@[go_sem] theorem T76_zero : zeroPV T76 = some (.d (.agg [(.int .i64 0), .nilslice])) := by kernel_rfl
@[go_sem] theorem T76_ok : zeroOk T76 = true := by kernel_rfl
noncomputable def T77 : Ty := (tyOf Tryd.prog 77).getD ⟨.invalid, 0, 0, none⟩
@[go_sem] theorem ty77 : tyOf Tryd.prog 77 = some T77 := by kernel_rfl
noncomputable def fs77 : Array Field := match T77.desc with | .struct fs => fs | _ => #[]
@[go_sem] theorem T77_desc : T77.desc = .struct fs77 := by kernel_rfl
noncomputable def fs77_0 : Field := fs77.getD 0 default
@[go_sem] theorem fs77_at0 : fs77[0]? = some fs77_0 := by kernel_rfl
@[go_sem] theorem fs77_0_type : fs77_0.type = 3 := by kernel_rfl
@[go_sem] theorem fs77_0_off : fs77_0.offset = 0 := by kernel_rfl
@[go_sem] theorem fo77_0 : fieldOf Tryd.prog 77 0 = some (0, 1) := by kernel_rfl
noncomputable def fs77_1 : Field := fs77.getD 1 default
@[go_sem] theorem fs77_at1 : fs77[1]? = some fs77_1 := by kernel_rfl
@[go_sem] theorem fs77_1_type : fs77_1.type = 22 := by kernel_rfl
@[go_sem] theorem fs77_1_off : fs77_1.offset = 1 := by kernel_rfl
@[go_sem] theorem fo77_1 : fieldOf Tryd.prog 77 1 = some (1, 1) := by kernel_rfl
@[go_sem] theorem pl77 : placesOf Tryd.prog fs77.toList = some [(0, 1), (1, 1)] := by kernel_rfl
@[go_sem] theorem T77_size : T77.size = 2 := by kernel_rfl
@[go_sem] theorem T77_bytes : T77.bytes = 32 := by kernel_rfl
@[go_sem] theorem T77_cells : zeroCells T77.zero = some [.d (.int .i64 0), .d .nilslice] := by kernel_rfl
@[go_sem] theorem T77_zero : zeroPV T77 = some (.d (.agg [(.int .i64 0), .nilslice])) := by kernel_rfl
@[go_sem] theorem T77_ok : zeroOk T77 = true := by kernel_rfl
noncomputable def T79 : Ty := (tyOf Tryd.prog 79).getD ⟨.invalid, 0, 0, none⟩
@[go_sem] theorem ty79 : tyOf Tryd.prog 79 = some T79 := by kernel_rfl
@[go_sem] theorem T79_desc : T79.desc = .func #[3, 22] #[77, 28] false := by kernel_rfl
@[go_sem] theorem T79_size : T79.size = 1 := by kernel_rfl
@[go_sem] theorem T79_bytes : T79.bytes = 8 := by kernel_rfl
@[go_sem] theorem T79_zero : zeroPV T79 = some (.d .nilfunc) := by kernel_rfl
@[go_sem] theorem T79_ok : zeroOk T79 = true := by kernel_rfl
noncomputable def T80 : Ty := (tyOf Tryd.prog 80).getD ⟨.invalid, 0, 0, none⟩
@[go_sem] theorem ty80 : tyOf Tryd.prog 80 = some T80 := by kernel_rfl
@[go_sem] theorem T80_desc : T80.desc = .func #[3] #[4] false := by kernel_rfl
@[go_sem] theorem T80_size : T80.size = 1 := by kernel_rfl
@[go_sem] theorem T80_bytes : T80.bytes = 8 := by kernel_rfl
@[go_sem] theorem T80_zero : zeroPV T80 = some (.d .nilfunc) := by kernel_rfl
@[go_sem] theorem T80_ok : zeroOk T80 = true := by kernel_rfl
noncomputable def T81 : Ty := (tyOf Tryd.prog 81).getD ⟨.invalid, 0, 0, none⟩
@[go_sem] theorem ty81 : tyOf Tryd.prog 81 = some T81 := by kernel_rfl
@[go_sem] theorem T81_desc : T81.desc = .func #[] #[27] false := by kernel_rfl
@[go_sem] theorem T81_size : T81.size = 1 := by kernel_rfl
@[go_sem] theorem T81_bytes : T81.bytes = 8 := by kernel_rfl
@[go_sem] theorem T81_zero : zeroPV T81 = some (.d .nilfunc) := by kernel_rfl
@[go_sem] theorem T81_ok : zeroOk T81 = true := by kernel_rfl
noncomputable def T82 : Ty := (tyOf Tryd.prog 82).getD ⟨.invalid, 0, 0, none⟩
@[go_sem] theorem ty82 : tyOf Tryd.prog 82 = some T82 := by kernel_rfl
noncomputable def fs82 : Array Field := match T82.desc with | .struct fs => fs | _ => #[]
@[go_sem] theorem T82_desc : T82.desc = .struct fs82 := by kernel_rfl
noncomputable def fs82_0 : Field := fs82.getD 0 default
@[go_sem] theorem fs82_at0 : fs82[0]? = some fs82_0 := by kernel_rfl
@[go_sem] theorem fs82_0_type : fs82_0.type = 27 := by kernel_rfl
@[go_sem] theorem fs82_0_off : fs82_0.offset = 0 := by kernel_rfl
@[go_sem] theorem fo82_0 : fieldOf Tryd.prog 82 0 = some (0, 1) := by kernel_rfl
noncomputable def fs82_1 : Field := fs82.getD 1 default
@[go_sem] theorem fs82_at1 : fs82[1]? = some fs82_1 := by kernel_rfl
@[go_sem] theorem fs82_1_type : fs82_1.type = 26 := by kernel_rfl
@[go_sem] theorem fs82_1_off : fs82_1.offset = 1 := by kernel_rfl
@[go_sem] theorem fo82_1 : fieldOf Tryd.prog 82 1 = some (1, 2) := by kernel_rfl
noncomputable def fs82_2 : Field := fs82.getD 2 default
@[go_sem] theorem fs82_at2 : fs82[2]? = some fs82_2 := by kernel_rfl
@[go_sem] theorem fs82_2_type : fs82_2.type = 3 := by kernel_rfl
@[go_sem] theorem fs82_2_off : fs82_2.offset = 3 := by kernel_rfl
@[go_sem] theorem fo82_2 : fieldOf Tryd.prog 82 2 = some (3, 1) := by kernel_rfl
@[go_sem] theorem pl82 : placesOf Tryd.prog fs82.toList = some [(0, 1), (1, 2), (3, 1)] := by kernel_rfl
@[go_sem] theorem T82_size : T82.size = 4 := by kernel_rfl
@[go_sem] theorem T82_bytes : T82.bytes = 48 := by kernel_rfl
@[go_sem] theorem T82_cells : zeroCells T82.zero = some [.d .nilslice, .d (.int .i64 0), .d (.int .i64 0), .d (.int .i64 0)] := by kernel_rfl
@[go_sem] theorem T82_zero : zeroPV T82 = some (.d (.agg [.nilslice, (.int .i64 0), (.int .i64 0), (.int .i64 0)])) := by kernel_rfl
@[go_sem] theorem T82_ok : zeroOk T82 = true := by kernel_rfl
noncomputable def T83 : Ty := (tyOf Tryd.prog 83).getD ⟨.invalid, 0, 0, none⟩
@[go_sem] theorem ty83 : tyOf Tryd.prog 83 = some T83 := by kernel_rfl
noncomputable def fs83 : Array Field := match T83.desc with | .struct fs => fs | _ => #[]
@[go_sem] theorem T83_desc : T83.desc = .struct fs83 := by kernel_rfl
noncomputable def fs83_0 : Field := fs83.getD 0 default
@[go_sem] theorem fs83_at0 : fs83[0]? = some fs83_0 := by kernel_rfl
@[go_sem] theorem fs83_0_type : fs83_0.type = 27 := by kernel_rfl
@[go_sem] theorem fs83_0_off : fs83_0.offset = 0 := by kernel_rfl
@[go_sem] theorem fo83_0 : fieldOf Tryd.prog 83 0 = some (0, 1) := by kernel_rfl
noncomputable def fs83_1 : Field := fs83.getD 1 default
@[go_sem] theorem fs83_at1 : fs83[1]? = some fs83_1 := by kernel_rfl
@[go_sem] theorem fs83_1_type : fs83_1.type = 26 := by kernel_rfl
@[go_sem] theorem fs83_1_off : fs83_1.offset = 1 := by kernel_rfl
@[go_sem] theorem fo83_1 : fieldOf Tryd.prog 83 1 = some (1, 2) := by kernel_rfl
noncomputable def fs83_2 : Field := fs83.getD 2 default
@[go_sem] theorem fs83_at2 : fs83[2]? = some fs83_2 := by kernel_rfl
@[go_sem] theorem fs83_2_type : fs83_2.type = 3 := by kernel_rfl
@[go_sem] theorem fs83_2_off : fs83_2.offset = 3 := by kernel_rfl
@[go_sem] theorem fo83_2 : fieldOf Tryd.prog 83 2 = some (3, 1) := by kernel_rfl
@[go_sem] theorem pl83 : placesOf Tryd.prog fs83.toList = some [(0, 1), (1, 2), (3, 1)] := by kernel_rfl
@[go_sem] theorem T83_size : T83.size = 4 := by kernel_rfl
@[go_sem] theorem T83_bytes : T83.bytes = 48 := by kernel_rfl
@[go_sem] theorem T83_cells : zeroCells T83.zero = some [.d .nilslice, .d (.int .i64 0), .d (.int .i64 0), .d (.int .i64 0)] := by kernel_rfl
@[go_sem] theorem T83_zero : zeroPV T83 = some (.d (.agg [.nilslice, (.int .i64 0), (.int .i64 0), (.int .i64 0)])) := by kernel_rfl
@[go_sem] theorem T83_ok : zeroOk T83 = true := by kernel_rfl
noncomputable def T85 : Ty := (tyOf Tryd.prog 85).getD ⟨.invalid, 0, 0, none⟩
@[go_sem] theorem ty85 : tyOf Tryd.prog 85 = some T85 := by kernel_rfl
@[go_sem] theorem T85_desc : T85.desc = .func #[3, 3] #[83, 4] false := by kernel_rfl
@[go_sem] theorem T85_size : T85.size = 1 := by kernel_rfl
@[go_sem] theorem T85_bytes : T85.bytes = 8 := by kernel_rfl
@[go_sem] theorem T85_zero : zeroPV T85 = some (.d .nilfunc) := by kernel_rfl
@[go_sem] theorem T85_ok : zeroOk T85 = true := by kernel_rfl
noncomputable def T86 : Ty := (tyOf Tryd.prog 86).getD ⟨.invalid, 0, 0, none⟩
@[go_sem] theorem ty86 : tyOf Tryd.prog 86 = some T86 := by kernel_rfl
@[go_sem] theorem T86_desc : T86.desc = .slice 90 := by kernel_rfl
@[go_sem] theorem es86 : elemSize Tryd.prog 86 = some 5 := by kernel_rfl
@[go_sem] theorem T86_size : T86.size = 1 := by kernel_rfl
@[go_sem] theorem T86_bytes : T86.bytes = 24 := by kernel_rfl
@[go_sem] theorem T86_zero : zeroPV T86 = some (.d .nilslice) := by kernel_rfl
@[go_sem] theorem T86_ok : zeroOk T86 = true := by kernel_rfl
noncomputable def T87 : Ty := (tyOf Tryd.prog 87).getD ⟨.invalid, 0, 0, none⟩
@[go_sem] theorem ty87 : tyOf Tryd.prog 87 = some T87 := by kernel_rfl
@[go_sem] theorem T87_desc : T87.desc = .slice 86 := by kernel_rfl
@[go_sem] theorem es87 : elemSize Tryd.prog 87 = some 1 := by kernel_rfl
@[go_sem] theorem T87_size : T87.size = 1 := by kernel_rfl
@[go_sem] theorem T87_bytes : T87.bytes = 24 := by kernel_rfl
@[go_sem] theorem T87_zero : zeroPV T87 = some (.d .nilslice) := by kernel_rfl
@[go_sem] theorem T87_ok : zeroOk T87 = true := by kernel_rfl
noncomputable def T88 : Ty := (tyOf Tryd.prog 88).getD ⟨.invalid, 0, 0, none⟩
@[go_sem] theorem ty88 : tyOf Tryd.prog 88 = some T88 := by kernel_rfl
@[go_sem] theorem T88_desc : T88.desc = .func #[3, 22, 3, 3] #[87] false := by kernel_rfl
@[go_sem] theorem T88_size : T88.size = 1 := by kernel_rfl
@[go_sem] theorem T88_bytes : T88.bytes = 8 := by kernel_rfl
@[go_sem] theorem T88_zero : zeroPV T88 = some (.d .nilfunc) := by kernel_rfl
@[go_sem] theorem T88_ok : zeroOk T88 = true := by kernel_rfl
noncomputable def T89 : Ty := (tyOf Tryd.prog 89).getD ⟨.invalid, 0, 0, none⟩
@[go_sem] theorem ty89 : tyOf Tryd.prog 89 = some T89 := by kernel_rfl
noncomputable def fs89 : Array Field := match T89.desc with | .struct fs => fs | _ => #[]
@[go_sem] theorem T89_desc : T89.desc = .struct fs89 := by kernel_rfl
noncomputable def fs89_0 : Field := fs89.getD 0 default
@[go_sem] theorem fs89_at0 : fs89[0]? = some fs89_0 := by kernel_rfl
@[go_sem] theorem fs89_0_type : fs89_0.type = 4 := by kernel_rfl
@[go_sem] theorem fs89_0_off : fs89_0.offset = 0 := by kernel_rfl
@[go_sem] theorem fo89_0 : fieldOf Tryd.prog 89 0 = some (0, 1) := by kernel_rfl
noncomputable def fs89_1 : Field := fs89.getD 1 default
@[go_sem] theorem fs89_at1 : fs89[1]? = some fs89_1 := by kernel_rfl
@[go_sem] theorem fs89_1_type : fs89_1.type = 59 := by kernel_rfl
@[go_sem] theorem fs89_1_off : fs89_1.offset = 1 := by kernel_rfl
@[go_sem] theorem fo89_1 : fieldOf Tryd.prog 89 1 = some (1, 4) := by kernel_rfl
@[go_sem] theorem pl89 : placesOf Tryd.prog fs89.toList = some [(0, 1), (1, 4)] := by kernel_rfl
@[go_sem] theorem T89_size : T89.size = 5 := by kernel_rfl
@[go_sem] theorem T89_bytes : T89.bytes = 72 := by kernel_rfl
@[go_sem] theorem T89_cells : zeroCells T89.zero = some [.d (.bool false), .d (.bool false), .d .nilslice, .d (.bool false), .d .nilslice] := by kernel_rfl
@[go_sem] theorem T89_zero : zeroPV T89 = some (.d (.agg [(.bool false), (.bool false), .nilslice, (.bool false), .nilslice])) := by kernel_rfl
@[go_sem] theorem T89_ok : zeroOk T89 = true := by kernel_rfl
noncomputable def T90 : Ty := (tyOf Tryd.prog 90).getD ⟨.invalid, 0, 0, none⟩
@[go_sem] theorem ty90 : tyOf Tryd.prog 90 = some T90 := by kernel_rfl
noncomputable def fs90 : Array Field := match T90.desc with | .struct fs => fs | _ => #[]
@[go_sem] theorem T90_desc : T90.desc = .struct fs90 := by kernel_rfl
noncomputable def fs90_0 : Field := fs90.getD 0 default
@[go_sem] theorem fs90_at0 : fs90[0]? = some fs90_0 := by kernel_rfl
@[go_sem] theorem fs90_0_type : fs90_0.type = 4 := by kernel_rfl
@[go_sem] theorem fs90_0_off : fs90_0.offset = 0 := by kernel_rfl
@[go_sem] theorem fo90_0 : fieldOf Tryd.prog 90 0 = some (0, 1) := by kernel_rfl
noncomputable def fs90_1 : Field := fs90.getD 1 default
@[go_sem] theorem fs90_at1 : fs90[1]? = some fs90_1 := by kernel_rfl
@[go_sem] theorem fs90_1_type : fs90_1.type = 59 := by kernel_rfl
@[go_sem] theorem fs90_1_off : fs90_1.offset = 1 := by kernel_rfl
@[go_sem] theorem fo90_1 : fieldOf Tryd.prog 90 1 = some (1, 4) := by kernel_rfl
@[go_sem] theorem pl90 : placesOf Tryd.prog fs90.toList = some [(0, 1), (1, 4)] := by kernel_rfl
@[go_sem] theorem T90_size : T90.size = 5 := by kernel_rfl
@[go_sem] theorem T90_bytes : T90.bytes = 72 := by kernel_rfl
@[go_sem] theorem T90_cells : zeroCells T90.zero = some [.d (.bool false), .d (.bool false), .d .nilslice, .d (.bool false), .d .nilslice] := by kernel_rfl
@[go_sem] theorem T90_zero : zeroPV T90 = some (.d (.agg [(.bool false), (.bool false), .nilslice, (.bool false), .nilslice])) := by kernel_rfl
@[go_sem] theorem T90_ok : zeroOk T90 = true := by kernel_rfl
noncomputable def T91 : Ty := (tyOf Tryd.prog 91).getD ⟨.invalid, 0, 0, none⟩
@[go_sem] theorem ty91 : tyOf Tryd.prog 91 = some T91 := by kernel_rfl
@[go_sem] theorem T91_desc : T91.desc = .func #[90, 59] #[4] false := by kernel_rfl
@[go_sem] theorem T91_size : T91.size = 1 := by kernel_rfl
@[go_sem] theorem T91_bytes : T91.bytes = 8 := by kernel_rfl
@[go_sem] theorem T91_zero : zeroPV T91 = some (.d .nilfunc) := by kernel_rfl
@[go_sem] theorem T91_ok : zeroOk T91 = true := by kernel_rfl
noncomputable def T92 : Ty := (tyOf Tryd.prog 92).getD ⟨.invalid, 0, 0, none⟩
@[go_sem] theorem ty92 : tyOf Tryd.prog 92 = some T92 := by kernel_rfl
@[go_sem] theorem T92_desc : T92.desc = .func #[26, 26] #[26] false := by kernel_rfl
@[go_sem] theorem T92_size : T92.size = 1 := by kernel_rfl
@[go_sem] theorem T92_bytes : T92.bytes = 8 := by kernel_rfl
@[go_sem] theorem T92_zero : zeroPV T92 = some (.d .nilfunc) := by kernel_rfl
@[go_sem] theorem T92_ok : zeroOk T92 = true := by kernel_rfl
noncomputable def T93 : Ty := (tyOf Tryd.prog 93).getD ⟨.invalid, 0, 0, none⟩
@[go_sem] theorem ty93 : tyOf Tryd.prog 93 = some T93 := by kernel_rfl
@[go_sem] theorem T93_desc : T93.desc = .func #[22, 3, 3] #[22] false := by kernel_rfl
@[go_sem] theorem T93_size : T93.size = 1 := by kernel_rfl
@[go_sem] theorem T93_bytes : T93.bytes = 8 := by kernel_rfl
@[go_sem] theorem T93_zero : zeroPV T93 = some (.d .nilfunc) := by kernel_rfl
@[go_sem] theorem T93_ok : zeroOk T93 = true := by kernel_rfl
noncomputable def T94 : Ty := (tyOf Tryd.prog 94).getD ⟨.invalid, 0, 0, none⟩
@[go_sem] theorem ty94 : tyOf Tryd.prog 94 = some T94 := by kernel_rfl
@[go_sem] theorem T94_desc : T94.desc = .func #[3, 3] #[26] false := by kernel_rfl
@[go_sem] theorem T94_size : T94.size = 1 := by kernel_rfl
@[go_sem] theorem T94_bytes : T94.bytes = 8 := by kernel_rfl
@[go_sem] theorem T94_zero : zeroPV T94 = some (.d .nilfunc) := by kernel_rfl
@[go_sem] theorem T94_ok : zeroOk T94 = true := by kernel_rfl
noncomputable def T95 : Ty := (tyOf Tryd.prog 95).getD ⟨.invalid, 0, 0, none⟩
@[go_sem] theorem ty95 : tyOf Tryd.prog 95 = some T95 := by kernel_rfl
@[go_sem] theorem T95_desc : T95.desc = .func #[43] #[59] false := by kernel_rfl
@[go_sem] theorem T95_size : T95.size = 1 := by kernel_rfl
@[go_sem] theorem T95_bytes : T95.bytes = 8 := by kernel_rfl
@[go_sem] theorem T95_zero : zeroPV T95 = some (.d .nilfunc) := by kernel_rfl
@[go_sem] theorem T95_ok : zeroOk T95 = true := by kernel_rfl
noncomputable def T97 : Ty := (tyOf Tryd.prog 97).getD ⟨.invalid, 0, 0, none⟩
@[go_sem] theorem ty97 : tyOf Tryd.prog 97 = some T97 := by kernel_rfl
@[go_sem] theorem T97_desc : T97.desc = .func #[27] #[26, 27, 4] false := by kernel_rfl
@[go_sem] theorem T97_size : T97.size = 1 := by kernel_rfl
@[go_sem] theorem T97_bytes : T97.bytes = 8 := by kernel_rfl
@[go_sem] theorem T97_zero : zeroPV T97 = some (.d .nilfunc) := by kernel_rfl
@[go_sem] theorem T97_ok : zeroOk T97 = true := by kernel_rfl
noncomputable def T98 : Ty := (tyOf Tryd.prog 98).getD ⟨.invalid, 0, 0, none⟩
@[go_sem] theorem ty98 : tyOf Tryd.prog 98 = some T98 := by kernel_rfl
@[go_sem] theorem T98_desc : T98.desc = .func #[3, 3] #[3] false := by kernel_rfl
@[go_sem] theorem T98_size : T98.size = 1 := by kernel_rfl
@[go_sem] theorem T98_bytes : T98.bytes = 8 := by kernel_rfl
@[go_sem] theorem T98_zero : zeroPV T98 = some (.d .nilfunc) := by kernel_rfl
@[go_sem] theorem T98_ok : zeroOk T98 = true := by kernel_rfl
noncomputable def T99 : Ty := (tyOf Tryd.prog 99).getD ⟨.invalid, 0, 0, none⟩
@[go_sem] theorem ty99 : tyOf Tryd.prog 99 = some T99 := by kernel_rfl
@[go_sem] theorem T99_desc : T99.desc = .func #[34, 47] #[4] false := by kernel_rfl
@[go_sem] theorem T99_size : T99.size = 1 := by kernel_rfl
@[go_sem] theorem T99_bytes : T99.bytes = 8 := by kernel_rfl
@[go_sem] theorem T99_zero : zeroPV T99 = some (.d .nilfunc) := by kernel_rfl
@[go_sem] theorem T99_ok : zeroOk T99 = true := by kernel_rfl
noncomputable def T100 : Ty := (tyOf Tryd.prog 100).getD ⟨.invalid, 0, 0, none⟩
@[go_sem] theorem ty100 : tyOf Tryd.prog 100 = some T100 := by kernel_rfl
@[go_sem] theorem T100_desc : T100.desc = .int .u64 := by kernel_rfl
@[go_sem] theorem T100_size : T100.size = 1 := by kernel_rfl
@[go_sem] theorem T100_bytes : T100.bytes = 8 := by kernel_rfl
@[go_sem] theorem T100_zero : zeroPV T100 = some (.d (.int .u64 0)) := by kernel_rfl
@[go_sem] theorem T100_ok : zeroOk T100 = true := by kernel_rfl
noncomputable def T102 : Ty := (tyOf Tryd.prog 102).getD ⟨.invalid, 0, 0, none⟩
@[go_sem] theorem ty102 : tyOf Tryd.prog 102 = some T102 := by kernel_rfl
@[go_sem] theorem T102_desc : T102.desc = .func #[100, 100] #[100, 100] false := by kernel_rfl
@[go_sem] theorem T102_size : T102.size = 1 := by kernel_rfl
@[go_sem] theorem T102_bytes : T102.bytes = 8 := by kernel_rfl
@[go_sem] theorem T102_zero : zeroPV T102 = some (.d .nilfunc) := by kernel_rfl
@[go_sem] theorem T102_ok : zeroOk T102 = true := by kernel_rfl
noncomputable def T103 : Ty := (tyOf Tryd.prog 103).getD ⟨.invalid, 0, 0, none⟩
@[go_sem] theorem ty103 : tyOf Tryd.prog 103 = some T103 := by kernel_rfl
@[go_sem] theorem T103_desc : T103.desc = .func #[57, 57] #[3] false := by kernel_rfl
@[go_sem] theorem T103_size : T103.size = 1 := by kernel_rfl
@[go_sem] theorem T103_bytes : T103.bytes = 8 := by kernel_rfl
@[go_sem] theorem T103_zero : zeroPV T103 = some (.d .nilfunc) := by kernel_rfl
@[go_sem] theorem T103_ok : zeroOk T103 = true := by kernel_rfl
noncomputable def T104 : Ty := (tyOf Tryd.prog 104).getD ⟨.invalid, 0, 0, none⟩
@[go_sem] theorem ty104 : tyOf Tryd.prog 104 = some T104 := by kernel_rfl
@[go_sem] theorem T104_desc : T104.desc = .func #[57, 57] #[57] false := by kernel_rfl
@[go_sem] theorem T104_size : T104.size = 1 := by kernel_rfl
@[go_sem] theorem T104_bytes : T104.bytes = 8 := by kernel_rfl
@[go_sem] theorem T104_zero : zeroPV T104 = some (.d .nilfunc) := by kernel_rfl
@[go_sem] theorem T104_ok : zeroOk T104 = true := by kernel_rfl
noncomputable def T105 : Ty := (tyOf Tryd.prog 105).getD ⟨.invalid, 0, 0, none⟩
@[go_sem] theorem ty105 : tyOf Tryd.prog 105 = some T105 := by kernel_rfl
@[go_sem] theorem T105_desc : T105.desc = .func #[57, 57] #[59] false := by kernel_rfl
@[go_sem] theorem T105_size : T105.size = 1 := by kernel_rfl
@[go_sem] theorem T105_bytes : T105.bytes = 8 := by kernel_rfl
@[go_sem] theorem T105_zero : zeroPV T105 = some (.d .nilfunc) := by kernel_rfl
@[go_sem] theorem T105_ok : zeroOk T105 = true := by kernel_rfl
noncomputable def T106 : Ty := (tyOf Tryd.prog 106).getD ⟨.invalid, 0, 0, none⟩
@[go_sem] theorem ty106 : tyOf Tryd.prog 106 = some T106 := by kernel_rfl
@[go_sem] theorem T106_desc : T106.desc = .func #[3] #[57] false := by kernel_rfl
@[go_sem] theorem T106_size : T106.size = 1 := by kernel_rfl
@[go_sem] theorem T106_bytes : T106.bytes = 8 := by kernel_rfl
@[go_sem] theorem T106_zero : zeroPV T106 = some (.d .nilfunc) := by kernel_rfl
@[go_sem] theorem T106_ok : zeroOk T106 = true := by kernel_rfl
noncomputable def T107 : Ty := (tyOf Tryd.prog 107).getD ⟨.invalid, 0, 0, none⟩
@[go_sem] theorem ty107 : tyOf Tryd.prog 107 = some T107 := by kernel_rfl
@[go_sem] theorem T107_desc : T107.desc = .func #[27] #[] false := by kernel_rfl
@[go_sem] theorem T107_size : T107.size = 1 := by kernel_rfl
@[go_sem] theorem T107_bytes : T107.bytes = 8 := by kernel_rfl
@[go_sem] theorem T107_zero : zeroPV T107 = some (.d .nilfunc) := by kernel_rfl
@[go_sem] theorem T107_ok : zeroOk T107 = true := by kernel_rfl
noncomputable def T108 : Ty := (tyOf Tryd.prog 108).getD ⟨.invalid, 0, 0, none⟩
@[go_sem] theorem ty108 : tyOf Tryd.prog 108 = some T108 := by kernel_rfl
@[go_sem] theorem T108_desc : T108.desc = .func #[27] #[27] false := by kernel_rfl
@[go_sem] theorem T108_size : T108.size = 1 := by kernel_rfl
@[go_sem] theorem T108_bytes : T108.bytes = 8 := by kernel_rfl
@[go_sem] theorem T108_zero : zeroPV T108 = some (.d .nilfunc) := by kernel_rfl
@[go_sem] theorem T108_ok : zeroOk T108 = true := by kernel_rfl
noncomputable def T109 : Ty := (tyOf Tryd.prog 109).getD ⟨.invalid, 0, 0, none⟩
@[go_sem] theorem ty109 : tyOf Tryd.prog 109 = some T109 := by kernel_rfl
@[go_sem] theorem T109_desc : T109.desc = .slice 87 := by kernel_rfl
@[go_sem] theorem es109 : elemSize Tryd.prog 109 = some 1 := by kernel_rfl
@[go_sem] theorem T109_size : T109.size = 1 := by kernel_rfl
@[go_sem] theorem T109_bytes : T109.bytes = 24 := by kernel_rfl
@[go_sem] theorem T109_zero : zeroPV T109 = some (.d .nilslice) := by kernel_rfl
@[go_sem] theorem T109_ok : zeroOk T109 = true := by kernel_rfl
noncomputable def T110 : Ty := (tyOf Tryd.prog 110).getD ⟨.invalid, 0, 0, none⟩
@[go_sem] theorem ty110 : tyOf Tryd.prog 110 = some T110 := by kernel_rfl
@[go_sem] theorem T110_desc : T110.desc = .func #[22, 87, 3, 3] #[27, 4] false := by kernel_rfl
@[go_sem] theorem T110_size : T110.size = 1 := by kernel_rfl
@[go_sem] theorem T110_bytes : T110.bytes = 8 := by kernel_rfl
@[go_sem] theorem T110_zero : zeroPV T110 = some (.d .nilfunc) := by kernel_rfl
@[go_sem] theorem T110_ok : zeroOk T110 = true := by kernel_rfl
noncomputable def T112 : Ty := (tyOf Tryd.prog 112).getD ⟨.invalid, 0, 0, none⟩
@[go_sem] theorem ty112 : tyOf Tryd.prog 112 = some T112 := by kernel_rfl
@[go_sem] theorem T112_desc : T112.desc = .func #[57, 3] #[3, 4] false := by kernel_rfl
@[go_sem] theorem T112_size : T112.size = 1 := by kernel_rfl
@[go_sem] theorem T112_bytes : T112.bytes = 8 := by kernel_rfl
@[go_sem] theorem T112_zero : zeroPV T112 = some (.d .nilfunc) := by kernel_rfl
@[go_sem] theorem T112_ok : zeroOk T112 = true := by kernel_rfl
noncomputable def T113 : Ty := (tyOf Tryd.prog 113).getD ⟨.invalid, 0, 0, none⟩
@[go_sem] theorem ty113 : tyOf Tryd.prog 113 = some T113 := by kernel_rfl
@[go_sem] theorem T113_desc : T113.desc = .func #[127] #[] false := by kernel_rfl
@[go_sem] theorem T113_size : T113.size = 1 := by kernel_rfl
@[go_sem] theorem T113_bytes : T113.bytes = 8 := by kernel_rfl
@[go_sem] theorem T113_zero : zeroPV T113 = some (.d .nilfunc) := by kernel_rfl
@[go_sem] theorem T113_ok : zeroOk T113 = true := by kernel_rfl
noncomputable def T114 : Ty := (tyOf Tryd.prog 114).getD ⟨.invalid, 0, 0, none⟩
@[go_sem] theorem ty114 : tyOf Tryd.prog 114 = some T114 := by kernel_rfl
@[go_sem] theorem T114_desc : T114.desc = .func #[127] #[] false := by kernel_rfl
@[go_sem] theorem T114_size : T114.size = 1 := by kernel_rfl
@[go_sem] theorem T114_bytes : T114.bytes = 8 := by kernel_rfl
@[go_sem] theorem T114_zero : zeroPV T114 = some (.d .nilfunc) := by kernel_rfl
@[go_sem] theorem T114_ok : zeroOk T114 = true := by kernel_rfl
noncomputable def T115 : Ty := (tyOf Tryd.prog 115).getD ⟨.invalid, 0, 0, none⟩
@[go_sem] theorem ty115 : tyOf Tryd.prog 115 = some T115 := by kernel_rfl
@[go_sem] theorem T115_desc : T115.desc = .func #[3, 3, 4] #[114] false := by kernel_rfl
@[go_sem] theorem T115_size : T115.size = 1 := by kernel_rfl
@[go_sem] theorem T115_bytes : T115.bytes = 8 := by kernel_rfl
@[go_sem] theorem T115_zero : zeroPV T115 = some (.d .nilfunc) := by kernel_rfl
@[go_sem] theorem T115_ok : zeroOk T115 = true := by kernel_rfl
noncomputable def T116 : Ty := (tyOf Tryd.prog 116).getD ⟨.invalid, 0, 0, none⟩
@[go_sem] theorem ty116 : tyOf Tryd.prog 116 = some T116 := by kernel_rfl
@[go_sem] theorem T116_desc : T116.desc = .func #[27, 27] #[3] false := by kernel_rfl
@[go_sem] theorem T116_size : T116.size = 1 := by kernel_rfl
@[go_sem] theorem T116_bytes : T116.bytes = 8 := by kernel_rfl
@[go_sem] theorem T116_zero : zeroPV T116 = some (.d .nilfunc) := by kernel_rfl
@[go_sem] theorem T116_ok : zeroOk T116 = true := by kernel_rfl
noncomputable def T117 : Ty := (tyOf Tryd.prog 117).getD ⟨.invalid, 0, 0, none⟩
@[go_sem] theorem ty117 : tyOf Tryd.prog 117 = some T117 := by kernel_rfl
@[go_sem] theorem T117_desc : T117.desc = .func #[34, 47] #[3] false := by kernel_rfl
@[go_sem] theorem T117_size : T117.size = 1 := by kernel_rfl
@[go_sem] theorem T117_bytes : T117.bytes = 8 := by kernel_rfl
@[go_sem] theorem T117_zero : zeroPV T117 = some (.d .nilfunc) := by kernel_rfl
@[go_sem] theorem T117_ok : zeroOk T117 = true := by kernel_rfl
noncomputable def T118 : Ty := (tyOf Tryd.prog 118).getD ⟨.invalid, 0, 0, none⟩
@[go_sem] theorem ty118 : tyOf Tryd.prog 118 = some T118 := by kernel_rfl
@[go_sem] theorem T118_desc : T118.desc = .int .u64 := by kernel_rfl
@[go_sem] theorem T118_size : T118.size = 1 := by kernel_rfl
@[go_sem] theorem T118_bytes : T118.bytes = 8 := by kernel_rfl
@[go_sem] theorem T118_zero : zeroPV T118 = some (.d (.int .u64 0)) := by kernel_rfl
@[go_sem] theorem T118_ok : zeroOk T118 = true := by kernel_rfl
noncomputable def T119 : Ty := (tyOf Tryd.prog 119).getD ⟨.invalid, 0, 0, none⟩
@[go_sem] theorem ty119 : tyOf Tryd.prog 119 = some T119 := by kernel_rfl
@[go_sem] theorem T119_desc : T119.desc = .func #[4, 27] #[57] false := by kernel_rfl
@[go_sem] theorem T119_size : T119.size = 1 := by kernel_rfl
@[go_sem] theorem T119_bytes : T119.bytes = 8 := by kernel_rfl
@[go_sem] theorem T119_zero : zeroPV T119 = some (.d .nilfunc) := by kernel_rfl
@[go_sem] theorem T119_ok : zeroOk T119 = true := by kernel_rfl
noncomputable def T120 : Ty := (tyOf Tryd.prog 120).getD ⟨.invalid, 0, 0, none⟩
@[go_sem] theorem ty120 : tyOf Tryd.prog 120 = some T120 := by kernel_rfl
@[go_sem] theorem T120_desc : T120.desc = .func #[27, 27] #[27] false := by kernel_rfl
@[go_sem] theorem T120_size : T120.size = 1 := by kernel_rfl
@[go_sem] theorem T120_bytes : T120.bytes = 8 := by kernel_rfl
@[go_sem] theorem T120_zero : zeroPV T120 = some (.d .nilfunc) := by kernel_rfl
@[go_sem] theorem T120_ok : zeroOk T120 = true := by kernel_rfl
noncomputable def T121 : Ty := (tyOf Tryd.prog 121).getD ⟨.invalid, 0, 0, none⟩
@[go_sem] theorem ty121 : tyOf Tryd.prog 121 = some T121 := by kernel_rfl
@[go_sem] theorem T121_desc : T121.desc = .func #[57] #[57] false := by kernel_rfl
@[go_sem] theorem T121_size : T121.size = 1 := by kernel_rfl
@[go_sem] theorem T121_bytes : T121.bytes = 8 := by kernel_rfl
@[go_sem] theorem T121_zero : zeroPV T121 = some (.d .nilfunc) := by kernel_rfl
@[go_sem] theorem T121_ok : zeroOk T121 = true := by kernel_rfl
noncomputable def T123 : Ty := (tyOf Tryd.prog 123).getD ⟨.invalid, 0, 0, none⟩
@[go_sem] theorem ty123 : tyOf Tryd.prog 123 = some T123 := by kernel_rfl
@[go_sem] theorem T123_desc : T123.desc = .func #[57, 57] #[57, 57] false := by kernel_rfl
@[go_sem] theorem T123_size : T123.size = 1 := by kernel_rfl
@[go_sem] theorem T123_bytes : T123.bytes = 8 := by kernel_rfl
@[go_sem] theorem T123_zero : zeroPV T123 = some (.d .nilfunc) := by kernel_rfl
@[go_sem] theorem T123_ok : zeroOk T123 = true := by kernel_rfl
noncomputable def T124 : Ty := (tyOf Tryd.prog 124).getD ⟨.invalid, 0, 0, none⟩
@[go_sem] theorem ty124 : tyOf Tryd.prog 124 = some T124 := by kernel_rfl
@[go_sem] theorem T124_desc : T124.desc = .func #[27, 3, 3, 3] #[] false := by kernel_rfl
@[go_sem] theorem T124_size : T124.size = 1 := by kernel_rfl
@[go_sem] theorem T124_bytes : T124.bytes = 8 := by kernel_rfl
@[go_sem] theorem T124_zero : zeroPV T124 = some (.d .nilfunc) := by kernel_rfl
@[go_sem] theorem T124_ok : zeroOk T124 = true := by kernel_rfl
noncomputable def T125 : Ty := (tyOf Tryd.prog 125).getD ⟨.invalid, 0, 0, none⟩
@[go_sem] theorem ty125 : tyOf Tryd.prog 125 = some T125 := by kernel_rfl
@[go_sem] theorem T125_desc : T125.desc = .func #[118] #[3] false := by kernel_rfl
@[go_sem] theorem T125_size : T125.size = 1 := by kernel_rfl
@[go_sem] theorem T125_bytes : T125.bytes = 8 := by kernel_rfl
@[go_sem] theorem T125_zero : zeroPV T125 = some (.d .nilfunc) := by kernel_rfl
@[go_sem] theorem T125_ok : zeroOk T125 = true := by kernel_rfl
noncomputable def T126 : Ty := (tyOf Tryd.prog 126).getD ⟨.invalid, 0, 0, none⟩
@[go_sem] theorem ty126 : tyOf Tryd.prog 126 = some T126 := by kernel_rfl
@[go_sem] theorem T126_desc : T126.desc = .func #[59, 90] #[4] false := by kernel_rfl
@[go_sem] theorem T126_size : T126.size = 1 := by kernel_rfl
@[go_sem] theorem T126_bytes : T126.bytes = 8 := by kernel_rfl
@[go_sem] theorem T126_zero : zeroPV T126 = some (.d .nilfunc) := by kernel_rfl
@[go_sem] theorem T126_ok : zeroOk T126 = true := by kernel_rfl
noncomputable def T127 : Ty := (tyOf Tryd.prog 127).getD ⟨.invalid, 0, 0, none⟩
@[go_sem] theorem ty127 : tyOf Tryd.prog 127 = some T127 := by kernel_rfl
@[go_sem] theorem T127_desc : T127.desc = .func #[83] #[4] false := by kernel_rfl
@[go_sem] theorem T127_size : T127.size = 1 := by kernel_rfl
@[go_sem] theorem T127_bytes : T127.bytes = 8 := by kernel_rfl
@[go_sem] theorem T127_zero : zeroPV T127 = some (.d .nilfunc) := by kernel_rfl
@[go_sem] theorem T127_ok : zeroOk T127 = true := by kernel_rfl
noncomputable def T128 : Ty := (tyOf Tryd.prog 128).getD ⟨.invalid, 0, 0, none⟩
@[go_sem] theorem ty128 : tyOf Tryd.prog 128 = some T128 := by kernel_rfl
@[go_sem] theorem T128_desc : T128.desc = .slice 4 := by kernel_rfl
@[go_sem] theorem es128 : elemSize Tryd.prog 128 = some 1 := by kernel_rfl
@[go_sem] theorem T128_size : T128.size = 1 := by kernel_rfl
@[go_sem] theorem T128_bytes : T128.bytes = 24 := by kernel_rfl
@[go_sem] theorem T128_zero : zeroPV T128 = some (.d .nilslice) := by kernel_rfl
@[go_sem] theorem T128_ok : zeroOk T128 = true := by kernel_rfl
noncomputable def T130 : Ty := (tyOf Tryd.prog 130).getD ⟨.invalid, 0, 0, none⟩
@[go_sem] theorem ty130 : tyOf Tryd.prog 130 = some T130 := by kernel_rfl
@[go_sem] theorem T130_desc : T130.desc = .func #[27, 27] #[27, 27] false := by kernel_rfl
@[go_sem] theorem T130_size : T130.size = 1 := by kernel_rfl
@[go_sem] theorem T130_bytes : T130.bytes = 8 := by kernel_rfl
@[go_sem] theorem T130_zero : zeroPV T130 = some (.d .nilfunc) := by kernel_rfl
@[go_sem] theorem T130_ok : zeroOk T130 = true := by kernel_rfl
noncomputable def T131 : Ty := (tyOf Tryd.prog 131).getD ⟨.invalid, 0, 0, none⟩
@[go_sem] theorem ty131 : tyOf Tryd.prog 131 = some T131 := by kernel_rfl
@[go_sem] theorem T131_desc : T131.desc = .func #[27, 3, 3] #[] false := by kernel_rfl
@[go_sem] theorem T131_size : T131.size = 1 := by kernel_rfl
@[go_sem] theorem T131_bytes : T131.bytes = 8 := by kernel_rfl
@[go_sem] theorem T131_zero : zeroPV T131 = some (.d .nilfunc) := by kernel_rfl
@[go_sem] theorem T131_ok : zeroOk T131 = true := by kernel_rfl
noncomputable def T132 : Ty := (tyOf Tryd.prog 132).getD ⟨.invalid, 0, 0, none⟩
@[go_sem] theorem ty132 : tyOf Tryd.prog 132 = some T132 := by kernel_rfl
@[go_sem] theorem T132_desc : T132.desc = .int .i64 := by kernel_rfl
@[go_sem] theorem T132_size : T132.size = 1 := by kernel_rfl
@[go_sem] theorem T132_bytes : T132.bytes = 8 := by kernel_rfl
@[go_sem] theorem T132_zero : zeroPV T132 = some (.d (.int .i64 0)) := by kernel_rfl
@[go_sem] theorem T132_ok : zeroOk T132 = true := by kernel_rfl
noncomputable def T134 : Ty := (tyOf Tryd.prog 134).getD ⟨.invalid, 0, 0, none⟩
@[go_sem] theorem ty134 : tyOf Tryd.prog 134 = some T134 := by kernel_rfl
@[go_sem] theorem T134_desc : T134.desc = .func #[27, 3, 3] #[3, 132] false := by kernel_rfl
@[go_sem] theorem T134_size : T134.size = 1 := by kernel_rfl
@[go_sem] theorem T134_bytes : T134.bytes = 8 := by kernel_rfl
@[go_sem] theorem T134_zero : zeroPV T134 = some (.d .nilfunc) := by kernel_rfl
@[go_sem] theorem T134_ok : zeroOk T134 = true := by kernel_rfl
noncomputable def T135 : Ty := (tyOf Tryd.prog 135).getD ⟨.invalid, 0, 0, none⟩
@[go_sem] theorem ty135 : tyOf Tryd.prog 135 = some T135 := by kernel_rfl
@[go_sem] theorem T135_desc : T135.desc = .func #[27, 3, 3] #[4] false := by kernel_rfl
@[go_sem] theorem T135_size : T135.size = 1 := by kernel_rfl
@[go_sem] theorem T135_bytes : T135.bytes = 8 := by kernel_rfl
@[go_sem] theorem T135_zero : zeroPV T135 = some (.d .nilfunc) := by kernel_rfl
@[go_sem] theorem T135_ok : zeroOk T135 = true := by kernel_rfl
noncomputable def T136 : Ty := (tyOf Tryd.prog 136).getD ⟨.invalid, 0, 0, none⟩
@[go_sem] theorem ty136 : tyOf Tryd.prog 136 = some T136 := by kernel_rfl
@[go_sem] theorem T136_desc : T136.desc = .func #[3, 3] #[4] false := by kernel_rfl
@[go_sem] theorem T136_size : T136.size = 1 := by kernel_rfl
@[go_sem] theorem T136_bytes : T136.bytes = 8 := by kernel_rfl
@[go_sem] theorem T136_zero : zeroPV T136 = some (.d .nilfunc) := by kernel_rfl
@[go_sem] theorem T136_ok : zeroOk T136 = true := by kernel_rfl
noncomputable def T137 : Ty := (tyOf Tryd.prog 137).getD ⟨.invalid, 0, 0, none⟩
@[go_sem] theorem ty137 : tyOf Tryd.prog 137 = some T137 := by kernel_rfl
@[go_sem] theorem T137_desc : T137.desc = .func #[27, 3, 3, 3] #[3] false := by kernel_rfl
@[go_sem] theorem T137_size : T137.size = 1 := by kernel_rfl
@[go_sem] theorem T137_bytes : T137.bytes = 8 := by kernel_rfl
@[go_sem] theorem T137_zero : zeroPV T137 = some (.d .nilfunc) := by kernel_rfl
@[go_sem] theorem T137_ok : zeroOk T137 = true := by kernel_rfl
noncomputable def T138 : Ty := (tyOf Tryd.prog 138).getD ⟨.invalid, 0, 0, none⟩
@[go_sem] theorem ty138 : tyOf Tryd.prog 138 = some T138 := by kernel_rfl
@[go_sem] theorem T138_desc : T138.desc = .func #[27, 3, 3, 3] #[3, 4] false := by kernel_rfl
@[go_sem] theorem T138_size : T138.size = 1 := by kernel_rfl
@[go_sem] theorem T138_bytes : T138.bytes = 8 := by kernel_rfl
@[go_sem] theorem T138_zero : zeroPV T138 = some (.d .nilfunc) := by kernel_rfl
@[go_sem] theorem T138_ok : zeroOk T138 = true := by kernel_rfl
noncomputable def T139 : Ty := (tyOf Tryd.prog 139).getD ⟨.invalid, 0, 0, none⟩
@[go_sem] theorem ty139 : tyOf Tryd.prog 139 = some T139 := by kernel_rfl
@[go_sem] theorem T139_desc : T139.desc = .func #[140] #[3] false := by kernel_rfl
@[go_sem] theorem T139_size : T139.size = 1 := by kernel_rfl
@[go_sem] theorem T139_bytes : T139.bytes = 8 := by kernel_rfl
@[go_sem] theorem T139_zero : zeroPV T139 = some (.d .nilfunc) := by kernel_rfl
@[go_sem] theorem T139_ok : zeroOk T139 = true := by kernel_rfl
noncomputable def T140 : Ty := (tyOf Tryd.prog 140).getD ⟨.invalid, 0, 0, none⟩
@[go_sem] theorem ty140 : tyOf Tryd.prog 140 = some T140 := by kernel_rfl
@[go_sem] theorem T140_desc : T140.desc = .int .u32 := by kernel_rfl
@[go_sem] theorem T140_size : T140.size = 1 := by kernel_rfl
@[go_sem] theorem T140_bytes : T140.bytes = 4 := by kernel_rfl
@[go_sem] theorem T140_zero : zeroPV T140 = some (.d (.int .u32 0)) := by kernel_rfl
@[go_sem] theorem T140_ok : zeroOk T140 = true := by kernel_rfl
noncomputable def T141 : Ty := (tyOf Tryd.prog 141).getD ⟨.invalid, 0, 0, none⟩
@[go_sem] theorem ty141 : tyOf Tryd.prog 141 = some T141 := by kernel_rfl
@[go_sem] theorem T141_desc : T141.desc = .func #[100] #[3] false := by kernel_rfl
@[go_sem] theorem T141_size : T141.size = 1 := by kernel_rfl
@[go_sem] theorem T141_bytes : T141.bytes = 8 := by kernel_rfl
@[go_sem] theorem T141_zero : zeroPV T141 = some (.d .nilfunc) := by kernel_rfl
@[go_sem] theorem T141_ok : zeroOk T141 = true := by kernel_rfl
noncomputable def T142 : Ty := (tyOf Tryd.prog 142).getD ⟨.invalid, 0, 0, none⟩
@[go_sem] theorem ty142 : tyOf Tryd.prog 142 = some T142 := by kernel_rfl
@[go_sem] theorem T142_desc : T142.desc = .int .u64 := by kernel_rfl
@[go_sem] theorem T142_size : T142.size = 1 := by kernel_rfl
@[go_sem] theorem T142_bytes : T142.bytes = 8 := by kernel_rfl
@[go_sem] theorem T142_zero : zeroPV T142 = some (.d (.int .u64 0)) := by kernel_rfl
@[go_sem] theorem T142_ok : zeroOk T142 = true := by kernel_rfl
noncomputable def T143 : Ty := (tyOf Tryd.prog 143).getD ⟨.invalid, 0, 0, none⟩
@[go_sem] theorem ty143 : tyOf Tryd.prog 143 = some T143 := by kernel_rfl
@[go_sem] theorem T143_desc : T143.desc = .func #[3] #[118] false := by kernel_rfl
@[go_sem] theorem T143_size : T143.size = 1 := by kernel_rfl
@[go_sem] theorem T143_bytes : T143.bytes = 8 := by kernel_rfl
@[go_sem] theorem T143_zero : zeroPV T143 = some (.d .nilfunc) := by kernel_rfl
@[go_sem] theorem T143_ok : zeroOk T143 = true := by kernel_rfl
noncomputable def T144 : Ty := (tyOf Tryd.prog 144).getD ⟨.invalid, 0, 0, none⟩
@[go_sem] theorem ty144 : tyOf Tryd.prog 144 = some T144 := by kernel_rfl
@[go_sem] theorem T144_desc : T144.desc = .func #[] #[100] false := by kernel_rfl
@[go_sem] theorem T144_size : T144.size = 1 := by kernel_rfl
@[go_sem] theorem T144_bytes : T144.bytes = 8 := by kernel_rfl
@[go_sem] theorem T144_zero : zeroPV T144 = some (.d .nilfunc) := by kernel_rfl
@[go_sem] theorem T144_ok : zeroOk T144 = true := by kernel_rfl
noncomputable def T145 : Ty := (tyOf Tryd.prog 145).getD ⟨.invalid, 0, 0, none⟩
@[go_sem] theorem ty145 : tyOf Tryd.prog 145 = some T145 := by kernel_rfl
@[go_sem] theorem T145_desc : T145.desc = .func #[27, 3, 146] #[3] false := by kernel_rfl
@[go_sem] theorem T145_size : T145.size = 1 := by kernel_rfl
@[go_sem] theorem T145_bytes : T145.bytes = 8 := by kernel_rfl
@[go_sem] theorem T145_zero : zeroPV T145 = some (.d .nilfunc) := by kernel_rfl
@[go_sem] theorem T145_ok : zeroOk T145 = true := by kernel_rfl
noncomputable def T146 : Ty := (tyOf Tryd.prog 146).getD ⟨.invalid, 0, 0, none⟩
@[go_sem] theorem ty146 : tyOf Tryd.prog 146 = some T146 := by kernel_rfl
@[go_sem] theorem T146_desc : T146.desc = .pointer 3 := by kernel_rfl
@[go_sem] theorem T146_size : T146.size = 1 := by kernel_rfl
@[go_sem] theorem T146_bytes : T146.bytes = 8 := by kernel_rfl
@[go_sem] theorem T146_zero : zeroPV T146 = some (.d .nilptr) := by kernel_rfl
@[go_sem] theorem T146_ok : zeroOk T146 = true := by kernel_rfl
noncomputable def T147 : Ty := (tyOf Tryd.prog 147).getD ⟨.invalid, 0, 0, none⟩
@[go_sem] theorem ty147 : tyOf Tryd.prog 147 = some T147 := by kernel_rfl
@[go_sem] theorem T147_desc : T147.desc = .func #[27, 3, 3, 3, 146] #[3] false := by kernel_rfl
@[go_sem] theorem T147_size : T147.size = 1 := by kernel_rfl
@[go_sem] theorem T147_bytes : T147.bytes = 8 := by kernel_rfl
@[go_sem] theorem T147_zero : zeroPV T147 = some (.d .nilfunc) := by kernel_rfl
@[go_sem] theorem T147_ok : zeroOk T147 = true := by kernel_rfl
noncomputable def T148 : Ty := (tyOf Tryd.prog 148).getD ⟨.invalid, 0, 0, none⟩
@[go_sem] theorem ty148 : tyOf Tryd.prog 148 = some T148 := by kernel_rfl
@[go_sem] theorem T148_desc : T148.desc = .pointer 142 := by kernel_rfl
@[go_sem] theorem T148_size : T148.size = 1 := by kernel_rfl
@[go_sem] theorem T148_bytes : T148.bytes = 8 := by kernel_rfl
@[go_sem] theorem T148_zero : zeroPV T148 = some (.d .nilptr) := by kernel_rfl
@[go_sem] theorem T148_ok : zeroOk T148 = true := by kernel_rfl
noncomputable def T150 : Ty := (tyOf Tryd.prog 150).getD ⟨.invalid, 0, 0, none⟩
@[go_sem] theorem ty150 : tyOf Tryd.prog 150 = some T150 := by kernel_rfl
@[go_sem] theorem T150_desc : T150.desc = .func #[27, 3, 3, 146] #[3, 3] false := by kernel_rfl
@[go_sem] theorem T150_size : T150.size = 1 := by kernel_rfl
@[go_sem] theorem T150_bytes : T150.bytes = 8 := by kernel_rfl
@[go_sem] theorem T150_zero : zeroPV T150 = some (.d .nilfunc) := by kernel_rfl
@[go_sem] theorem T150_ok : zeroOk T150 = true := by kernel_rfl
noncomputable def T151 : Ty := (tyOf Tryd.prog 151).getD ⟨.invalid, 0, 0, none⟩
@[go_sem] theorem ty151 : tyOf Tryd.prog 151 = some T151 := by kernel_rfl
@[go_sem] theorem T151_desc : T151.desc = .func #[] #[9] false := by kernel_rfl
@[go_sem] theorem T151_size : T151.size = 1 := by kernel_rfl
@[go_sem] theorem T151_bytes : T151.bytes = 8 := by kernel_rfl
@[go_sem] theorem T151_zero : zeroPV T151 = some (.d .nilfunc) := by kernel_rfl
@[go_sem] theorem T151_ok : zeroOk T151 = true := by kernel_rfl
noncomputable def T154 : Ty := (tyOf Tryd.prog 154).getD ⟨.invalid, 0, 0, none⟩
@[go_sem] theorem ty154 : tyOf Tryd.prog 154 = some T154 := by kernel_rfl
@[go_sem] theorem T154_desc : T154.desc = .array 0 16 := by kernel_rfl
@[go_sem] theorem T154_size : T154.size = 0 := by kernel_rfl
@[go_sem] theorem T154_bytes : T154.bytes = 0 := by kernel_rfl
noncomputable def T155 : Ty := (tyOf Tryd.prog 155).getD ⟨.invalid, 0, 0, none⟩
@[go_sem] theorem ty155 : tyOf Tryd.prog 155 = some T155 := by kernel_rfl
noncomputable def fs155 : Array Field := match T155.desc with | .struct fs => fs | _ => #[]
@[go_sem] theorem T155_desc : T155.desc = .struct fs155 := by kernel_rfl
noncomputable def fs155_0 : Field := fs155.getD 0 default
@[go_sem] theorem fs155_at0 : fs155[0]? = some fs155_0 := by kernel_rfl
@[go_sem] theorem fs155_0_type : fs155_0.type = 154 := by kernel_rfl
@[go_sem] theorem fs155_0_off : fs155_0.offset = 0 := by kernel_rfl
@[go_sem] theorem fo155_0 : fieldOf Tryd.prog 155 0 = some (0, 0) := by kernel_rfl
@[go_sem] theorem pl155 : placesOf Tryd.prog fs155.toList = some [(0, 0)] := by kernel_rfl
@[go_sem] theorem T155_size : T155.size = 0 := by kernel_rfl
@[go_sem] theorem T155_bytes : T155.bytes = 0 := by kernel_rfl
noncomputable def T157 : Ty := (tyOf Tryd.prog 157).getD ⟨.invalid, 0, 0, none⟩
@[go_sem] theorem ty157 : tyOf Tryd.prog 157 = some T157 := by kernel_rfl
@[go_sem] theorem T157_desc : T157.desc = .func #[] #[3] false := by kernel_rfl
@[go_sem] theorem T157_size : T157.size = 1 := by kernel_rfl
@[go_sem] theorem T157_bytes : T157.bytes = 8 := by kernel_rfl
@[go_sem] theorem T157_zero : zeroPV T157 = some (.d .nilfunc) := by kernel_rfl
@[go_sem] theorem T157_ok : zeroOk T157 = true := by kernel_rfl
noncomputable def T160 : Ty := (tyOf Tryd.prog 160).getD ⟨.invalid, 0, 0, none⟩
@[go_sem] theorem ty160 : tyOf Tryd.prog 160 = some T160 := by kernel_rfl
@[go_sem] theorem T160_desc : T160.desc = .func #[166, 166] #[4] false := by kernel_rfl
@[go_sem] theorem T160_size : T160.size = 1 := by kernel_rfl
@[go_sem] theorem T160_bytes : T160.bytes = 8 := by kernel_rfl
@[go_sem] theorem T160_zero : zeroPV T160 = some (.d .nilfunc) := by kernel_rfl
@[go_sem] theorem T160_ok : zeroOk T160 = true := by kernel_rfl
noncomputable def T161 : Ty := (tyOf Tryd.prog 161).getD ⟨.invalid, 0, 0, none⟩
@[go_sem] theorem ty161 : tyOf Tryd.prog 161 = some T161 := by kernel_rfl
@[go_sem] theorem T161_desc : T161.desc = .pointer 5 := by kernel_rfl
@[go_sem] theorem T161_size : T161.size = 1 := by kernel_rfl
@[go_sem] theorem T161_bytes : T161.bytes = 8 := by kernel_rfl
@[go_sem] theorem T161_zero : zeroPV T161 = some (.d .nilptr) := by kernel_rfl
@[go_sem] theorem T161_ok : zeroOk T161 = true := by kernel_rfl
@[go_sem] theorem se22 : sliceElem Tryd.prog 22 = some (43, T43) := by kernel_rfl
@[go_sem] theorem se27 : sliceElem Tryd.prog 27 = some (3, T3) := by kernel_rfl
@[go_sem] theorem se34 : sliceElem Tryd.prog 34 = some (26, T26) := by kernel_rfl
@[go_sem] theorem se86 : sliceElem Tryd.prog 86 = some (90, T90) := by kernel_rfl
@[go_sem] theorem se87 : sliceElem Tryd.prog 87 = some (86, T86) := by kernel_rfl
@[go_sem] theorem se109 : sliceElem Tryd.prog 109 = some (87, T87) := by kernel_rfl
@[go_sem] theorem se128 : sliceElem Tryd.prog 128 = some (4, T4) := by kernel_rfl
end Go.Pv.Tryd

namespace Go.Pv.Tryd
open Go.Proofs Go.Pv
theorem mo : Tryd.prog.follows .mixedOrders = true := by kernel_rfl
def G : List (Nat × PD) := [(0, .agg [.int .i64 1, .int .i64 1])]
@[go_sem] theorem G_at0 : G.lookup 0 = some (.agg [.int .i64 1, .int .i64 1]) := rfl
attribute [go_sem] reduceCtorEq Nat.reduceAdd Nat.reduceMul Nat.reduceLT Nat.reduceLeDiff Nat.reduceEqDiff Nat.reduceBEq Int.reduceToNat
attribute [go_sem] Tryd.results2 Tryd.results3 Tryd.results4 Tryd.results5 Tryd.results6 Tryd.results7 Tryd.results8 Tryd.results9 Tryd.results10 Tryd.results11 Tryd.results12 Tryd.results13 Tryd.results14 Tryd.results15 Tryd.results16 Tryd.results17 Tryd.results18 Tryd.results19 Tryd.results20 Tryd.results21 Tryd.results22 Tryd.results23 Tryd.results24 Tryd.results25 Tryd.results26 Tryd.results27 Tryd.results28 Tryd.results29 Tryd.results30 Tryd.results31 Tryd.results32 Tryd.results33 Tryd.results34 Tryd.results35 Tryd.results36 Tryd.results37 Tryd.results38 Tryd.results39 Tryd.results40 Tryd.results41 Tryd.results42 Tryd.results43 Tryd.results44 Tryd.results45 Tryd.results46 Tryd.results47 Tryd.results48 Tryd.results49 Tryd.results50 Tryd.results51 Tryd.results52 Tryd.results53 Tryd.results54 Tryd.results55 Tryd.results56 Tryd.results57 Tryd.results58 Tryd.results59 Tryd.results60 Tryd.results61 Tryd.results62 Tryd.results63 Tryd.results64 Tryd.results65 Tryd.results66 Tryd.results67 Tryd.results68 Tryd.results69 Tryd.results70 Tryd.results71 Tryd.results72 Tryd.results73 Tryd.results74 Tryd.results75 Tryd.results76 Tryd.results77 Tryd.results78 Tryd.results79 Tryd.results80 Tryd.results81 Tryd.results82 Tryd.results83 Tryd.results84 Tryd.results85 Tryd.results86 Tryd.results87 Tryd.results88 Tryd.results89 Tryd.results90 Tryd.results91 Tryd.results92 Tryd.results93 Tryd.results94 Tryd.results95 Tryd.results96 Tryd.results97 Tryd.results98 Tryd.results99 Tryd.results100 Tryd.results101 Tryd.results102 Tryd.results103 Tryd.results104 Tryd.results105 Tryd.results106 Tryd.results107 Tryd.results108 Tryd.results109 Tryd.results110 Tryd.results111 Tryd.results112 Tryd.results113 Tryd.results114 Tryd.results115 Tryd.results116 Tryd.results117 Tryd.results118 Tryd.results119
end Go.Pv.Tryd

namespace Go.Pv.Tryd
open Go Go.Proofs Go.Pv Go.ChangeShapes Go.WideShapes Go.ChangeAt Go.RowKit
theorem own : ownKnob Tryd.prog.godebug = none := by kernel_rfl
theorem laidOut : laidOutB Tryd.prog = true := by kernel_rfl
def oneName : String := (YtmnemlihimnofaaDoor.Rows.rateBestsRow.named.headD default)
theorem gOne : Tryd.prog.globalNamed oneName = some 0 := by kernel_rfl
theorem tOne : (Tryd.prog.globals[0]?).map (·.type) = some 26 := by kernel_rfl
theorem len2 {α : Type} {l : List α} (h : l.length = 2) : ∃ a b, l = [a, b] := by
  rcases l with _ | ⟨a, _ | ⟨b, _ | ⟨c, l⟩⟩⟩
  · cases h
  · cases h
  · exact ⟨a, b, rfl⟩
  · simp at h
theorem len4 {α : Type} {l : List α} (h : l.length = 4) : ∃ a b c d, l = [a, b, c, d] := by
  rcases l with _ | ⟨a, _ | ⟨b, _ | ⟨c, _ | ⟨d, _ | ⟨e, l⟩⟩⟩⟩⟩
  · cases h
  · cases h
  · cases h
  · cases h
  · exact ⟨a, b, c, d, rfl⟩
  · simp at h
set_option maxRecDepth 100000 in
theorem opens_Offer {w : World} : Opens Tryd.prog w 43 4 Offer.pd := by
  refine ⟨by kernel_rfl, fun enc sp held n cs x h => ?_⟩
  obtain ⟨xs, m, _, _, hl, hx, hf⟩ := DataW.trod_struct Tryd.underlying43 h
  have c43 : Tryd.prog.cellsOf 43 = 4 := by kernel_rfl
  have c3 : Tryd.prog.cellsOf 3 = 1 := by kernel_rfl
  rw [c43] at hl
  have hx4 : xs.length = 4 := hx
  obtain ⟨a, b, c, d, rfl⟩ := len4 hl
  obtain ⟨x0, x1, x2, x3, rfl⟩ := len4 hx4
  clear hl hx hx4
  have f0 : DataW.trod enc Tryd.prog w 0 sp held m 3 (([a, b, c, d].drop 0).take (Tryd.prog.cellsOf 3)) = some x0 := hf 0 _ rfl
  have f1 : DataW.trod enc Tryd.prog w 0 sp held m 3 (([a, b, c, d].drop 1).take (Tryd.prog.cellsOf 3)) = some x1 := hf 1 _ rfl
  have f2 : DataW.trod enc Tryd.prog w 0 sp held m 3 (([a, b, c, d].drop 2).take (Tryd.prog.cellsOf 3)) = some x2 := hf 2 _ rfl
  have f3 : DataW.trod enc Tryd.prog w 0 sp held m 3 (([a, b, c, d].drop 3).take (Tryd.prog.cellsOf 3)) = some x3 := hf 3 _ rfl
  rw [c3] at f0 f1 f2 f3
  obtain ⟨m0, e0, _⟩ := DataW.trod_int Tryd.underlying3 f0
  obtain ⟨m1, e1, _⟩ := DataW.trod_int Tryd.underlying3 f1
  obtain ⟨m2, e2, _⟩ := DataW.trod_int Tryd.underlying3 f2
  obtain ⟨m3, e3, _⟩ := DataW.trod_int Tryd.underlying3 f3
  simp at e0 e1 e2 e3
  subst e0 e1 e2 e3
  refine ⟨.agg #[.int .i64 m0, .int .i64 m1, .int .i64 m2, .int .i64 m3], ⟨m0, m1, m2, m3⟩, rfl, .agg rfl (fun i hi => ?_) (fun i hi => ?_), rfl, fun j hj => ?_⟩
  · match i, hi with
    | 0, _ => exact .int .i64 m0
    | 1, _ => exact .int .i64 m1
    | 2, _ => exact .int .i64 m2
    | 3, _ => exact .int .i64 m3
  · match i, hi with
    | 0, _ => rfl
    | 1, _ => rfl
    | 2, _ => rfl
    | 3, _ => rfl
  · match j, hj with
    | 0, _ => rfl
    | 1, _ => rfl
    | 2, _ => rfl
    | 3, _ => rfl
def laid1 : List (String × DataW Unit) := [(oneName, YtmnemlihimnofaaDoor.Rows.laid_cocket_rate_one)]
theorem door_met (os : Os) (args : Array Value) : laidMetH Tryd.prog laid1 ((World.doorLaid Tryd.prog 400 os).forCall (fun _ _ => 0) ⟨#[], args, []⟩).memory :=
  laidMetH_of_parts3 (fuel := 8) (laidMet_of_run' 8 (by kernel_rfl) (by kernel_rfl)) (by kernel_rfl) (by kernel_rfl)
set_option maxRecDepth 100000 in
theorem glob_of_laid {W : World} (h : laidMetH Tryd.prog laid1 W) : GlobTop G W := by
  rw [MakeChecks.laidMetH_plain _ _ _ (by kernel_rfl)] at h
  obtain ⟨ps, ⟨g0, t0, cs0, f0, p0, q0, hg0, ht0, hv0, hd0, _, _⟩, _⟩ := h
  obtain rfl := Option.some.inj (gOne.symm.trans hg0)
  obtain rfl := Option.some.inj (tOne.symm.trans ht0)
  obtain ⟨xs, m, _, hx, hl, hn, hf⟩ := DataW.trod_struct Tryd.underlying26 hd0
  have c26 : Tryd.prog.cellsOf 26 = 2 := by kernel_rfl
  have c3 : Tryd.prog.cellsOf 3 = 1 := by kernel_rfl
  rw [c26] at hl
  have hn2 : xs.length = 2 := hn
  obtain ⟨a, b, hcs⟩ := len2 hl
  obtain ⟨x0, x1, rfl⟩ := len2 hn2
  rw [hcs] at hf
  have e0 : DataW.trod (fun _ => ()) Tryd.prog W 0 (fun _ => true) false m 3 (([a, b].drop 0).take (Tryd.prog.cellsOf 3)) = some x0 := hf 0 _ rfl
  have e1 : DataW.trod (fun _ => ()) Tryd.prog W 0 (fun _ => true) false m 3 (([a, b].drop 1).take (Tryd.prog.cellsOf 3)) = some x1 := hf 1 _ rfl
  rw [c3] at e0 e1
  obtain ⟨m0, g0, h0, _⟩ := DataW.trod_int Tryd.underlying3 e0
  obtain ⟨m1, g1, h1, _⟩ := DataW.trod_int Tryd.underlying3 e1
  simp at g0 g1
  subst g0 g1
  simp only [YtmnemlihimnofaaDoor.Rows.laid_cocket_rate_one, Prod.mk.injEq, DataW.agg.injEq, List.map_cons, List.map_nil, List.cons.injEq, h0, h1, DataW.lit.injEq, Lit.int.injEq, and_true, true_and] at hx
  obtain ⟨⟨hm0, hm1⟩, _⟩ := hx
  subst hm0 hm1
  have hcs2 : cs0 = #[.int .i64 1, .int .i64 1] := by
    cases cs0
    simp_all
  subst hcs2
  intro g x hgx
  simp only [G, List.mem_singleton, Prod.mk.injEq] at hgx
  obtain ⟨rfl, rfl⟩ := hgx
  simp only [World.var?, hg0, Option.bind_some] at hv0
  split at hv0
  · rename_i cs t f hh
    cases hv0
    refine ⟨_, _, _, .agg #[.int .i64 1, .int .i64 1], hh, .agg rfl (fun i hi => ?_) (fun i hi => ?_), Nat.le_refl _, fun j hj => ?_⟩
    · match i, hi with
      | 0, _ => exact .int .i64 1
      | 1, _ => exact .int .i64 1
    · match i, hi with
      | 0, _ => rfl
      | 1, _ => rfl
    · match j, hj with
      | 0, _ => exact ⟨rfl, rfl⟩
      | 1, _ => exact ⟨rfl, rfl⟩
  · cases hv0
end Go.Pv.Tryd

namespace Go.Pv
def forUp {S : Type} (g : Int → S → Option S) : Nat → Int → S → Option S
  | 0, _, s => some s
  | k + 1, i, s => (g i s).bind (forUp g k (i + 1))
theorem iter_eq {S X : Type} (f : S → Option (S ⊕ X)) (s : S) : iter f s = (f s).bind fun o => match o with
    | .inl s' => iter f s'
    | .inr x => some x := by
  cases h : f s with
  | none =>
    simp only [Option.bind_none]
    cases hi : iter f s with
    | none => rfl
    | some x =>
      obtain ⟨n, hn⟩ := iter_some hi
      cases n with
      | zero => cases hn
      | succ n => rw [iterN_succ, h] at hn; cases hn
  | some o =>
    simp only [Option.bind_some]
    cases o with
    | inr x => exact iter_done h
    | inl s' =>
      show iter f s = iter f s'
      cases hi : iter f s' with
      | some x => exact iter_step h hi
      | none =>
        cases hi2 : iter f s with
        | none => rfl
        | some x =>
          obtain ⟨n, hn⟩ := iter_some hi2
          cases n with
          | zero => cases hn
          | succ n =>
            rw [iterN_succ, h] at hn
            have := iter_of (f := f) (s := s') (n := n) hn
            rw [hi] at this; cases this
theorem iter_for {S X : Type} {f : Int × S → Option ((Int × S) ⊕ X)} {n : Int} {g : Int → S → Option S} {e : S → X} (hn : n ≤ 9223372036854775807)
    (hf : ∀ i s, f (i, s) = cond (decide (i < n)) ((g i s).bind fun s' => some (.inl (IntKind.i64.wrap (i + 1), s'))) (some (.inr (e s)))) :
    ∀ (k : Nat) (i : Int) (s : S), k = (n - i).toNat → 0 ≤ i → iter f (i, s) = (forUp g k i s).map e
  | 0, i, s, hk, _ => by
    have : decide (i < n) = false := by simp; omega
    rw [iter_eq, hf, this]; rfl
  | k + 1, i, s, hk, hi => by
    have : decide (i < n) = true := by simp; omega
    rw [iter_eq, hf, this]
    simp only [cond_true, forUp]
    cases h : g i s with
    | none => rfl
    | some s' =>
      simp only [Option.bind_some]
      rw [wrap_i64_eq (by omega)]
      exact iter_for hn hf k (i + 1) s' (by omega) (by omega)
end Go.Pv

set_option linter.unusedSimpArgs false
set_option linter.unusedVariables false
namespace Go.Pv
def offerOk (n : Int) (o : Offer) : Bool := goodOffer n o && decide (o.From ≠ o.To)
def ofCode (n : Int) (l : List Offer) : Int := if n < 2 ∨ 6 < n then 2 else if 40 < l.length then 3 else cond (l.all (offerOk n)) 0 2
theorem idx_lt {α : Type} {l : List α} {i : Int} (h0 : 0 ≤ i) (h1 : i < l.length) : ∃ x, idx l i = some x ∧ l[i.toNat]? = some x ∧ l.drop i.toNat = x :: l.drop (i.toNat + 1) ∧ x ∈ l := by
  have h2 : i.toNat < l.length := by omega
  refine ⟨l[i.toNat], ?_, ?_, ?_, List.getElem_mem _⟩
  · rw [idx_pos h0, List.getElem?_eq_getElem h2]
  · rw [List.getElem?_eq_getElem h2]
  · rw [List.drop_eq_getElem_cons h2]
theorem of_l1 (n : Int) (l : List Offer) (c : Market) (hl : l.length ≤ 40) : ∀ (k : Nat) (i : Int), k = (l.length - i).toNat → 0 ≤ i →
    iter (m_rate_of_l1 n l) (i, c) = some (cond ((l.drop i.toNat).all (offerOk n)) (.inl c) (.inr (⟨0, []⟩, 2)))
  | 0, i, hk, hi => by
    have h : decide (i < (l.length : Int)) = false := by simp; omega
    rw [iter_eq, m_rate_of_l1, h, List.drop_of_length_le (by omega)]
    rfl
  | k + 1, i, hk, hi => by
    have hlt : i < (l.length : Int) := by omega
    have h : decide (i < (l.length : Int)) = true := by simp; omega
    obtain ⟨o, h1, h2, h3, _⟩ := idx_lt hi hlt
    have ih := of_l1 n l c hl k (i + 1) (by omega) (by omega)
    have e1 : (i + 1).toNat = i.toNat + 1 := by omega
    rw [e1] at ih
    rw [iter_eq, m_rate_of_l1, h, h3]
    simp only [cond_true, h1, Option.bind_some, m_rate_market_has, m_rate_of_1, List.all_cons]
    rw [wrap_i64_eq (by omega)]
    rcases Bool.eq_false_or_eq_true (offerOk n o) with hok | hok
    · rw [hok, Bool.true_and]
      simp only [offerOk, goodOffer, Bool.and_eq_true, decide_eq_true_eq] at hok
      have a1 : decide (0 ≤ o.From) = true := by simp; omega
      have a2 : decide (o.From < n) = true := by simp; omega
      have a3 : decide (0 ≤ o.To) = true := by simp; omega
      have a4 : decide (o.To < n) = true := by simp; omega
      have a5 : decide (o.From = o.To) = false := by simp; exact hok.2
      have a6 : decide (1 ≤ o.Num) = true := by simp; omega
      have a7 : decide (o.Num ≤ 50) = true := by simp; omega
      have a8 : decide (1 ≤ o.Den) = true := by simp; omega
      have a9 : decide (o.Den ≤ 50) = true := by simp; omega
      simp only [a1, a2, a3, a4, a5, a6, a7, a8, a9, Bool.and_true, Bool.not_true, cond_false, Option.bind_some, Bool.or_false]
      exact ih
    · rw [hok, Bool.false_and]
      rcases Bool.eq_false_or_eq_true (decide (0 ≤ o.From) && decide (o.From < n)) with b1 | b1
      rotate_left
      · simp only [b1, Bool.not_false, cond_true, cond_false, Option.bind_some, Bool.true_or]
      rcases Bool.eq_false_or_eq_true (decide (0 ≤ o.To) && decide (o.To < n)) with b2 | b2
      rotate_left
      · simp only [b1, b2, Bool.not_true, Bool.not_false, cond_true, cond_false, Option.bind_some, Bool.true_or]
      rcases Bool.eq_false_or_eq_true (decide (o.From = o.To)) with b3 | b3
      · simp only [b1, b2, b3, Bool.not_true, Bool.not_false, cond_true, cond_false, Option.bind_some, Bool.or_true]
      rcases Bool.eq_false_or_eq_true (decide (1 ≤ o.Num) && decide (o.Num ≤ 50)) with b4 | b4
      rotate_left
      · simp only [b1, b2, b3, b4, Bool.not_true, Bool.not_false, cond_true, cond_false, Option.bind_some, Bool.or_false]
      rcases Bool.eq_false_or_eq_true (decide (1 ≤ o.Den) && decide (o.Den ≤ 50)) with b5 | b5
      rotate_left
      · simp only [b1, b2, b3, b4, b5, Bool.not_true, Bool.not_false, cond_true, cond_false, Option.bind_some, Bool.or_false]
      exfalso
      simp only [Bool.and_eq_true, decide_eq_true_eq, decide_eq_false_iff_not] at b1 b2 b3 b4 b5
      have : offerOk n o = true := by
        simp only [offerOk, goodOffer, Bool.and_eq_true, decide_eq_true_eq]
        exact ⟨⟨b1.1, b1.2, b2.1, b2.2, b4.1, b4.2, b5.1, b5.2⟩, b3⟩
      rw [this] at hok; cases hok
theorem of_eq (n : Int) (l : List Offer) : m_rate_of n l = some (if ofCode n l = 0 then (⟨n, l⟩, 0) else (⟨0, []⟩, ofCode n l)) := by
  unfold m_rate_of ofCode
  by_cases h1 : n < 2 ∨ 6 < n
  · have : (decide (n < 2) || decide (6 < n)) = true := by simpa using h1
    rw [this, if_pos h1]; rfl
  have e1 : (decide (n < 2) || decide (6 < n)) = false := by simpa using h1
  rw [e1, if_neg h1]
  simp only [cond_false]
  by_cases h2 : 40 < l.length
  · have : decide (40 < (l.length : Int)) = true := by simp; omega
    rw [this, if_pos h2]; rfl
  have e2 : decide (40 < (l.length : Int)) = false := by simp; omega
  rw [e2, if_neg h2]
  simp only [cond_false]
  rw [of_l1 n l _ (by omega) _ 0 rfl (by omega)]
  simp only [Int.toNat_zero, List.drop_zero, Option.bind_some]
  cases l.all (offerOk n) with
  | true => rfl
  | false => rfl
theorem Good_l1 (n : Int) (l : List Offer) (hl : l.length ≤ 40) : ∀ (k : Nat) (i : Int), k = (l.length - i).toNat → 0 ≤ i →
    iter (m_cocketref01_Good_l1 n l) i = some (cond ((l.drop i.toNat).all (offerOk n)) (.inl ()) (.inr 2))
  | 0, i, hk, hi => by
    have h : decide (i < (l.length : Int)) = false := by simp; omega
    rw [iter_eq, m_cocketref01_Good_l1, h, List.drop_of_length_le (by omega)]
    rfl
  | k + 1, i, hk, hi => by
    have hlt : i < (l.length : Int) := by omega
    have h : decide (i < (l.length : Int)) = true := by simp; omega
    obtain ⟨o, h1, h2, h3, _⟩ := idx_lt hi hlt
    have ih := Good_l1 n l hl k (i + 1) (by omega) (by omega)
    have e1 : (i + 1).toNat = i.toNat + 1 := by omega
    rw [e1] at ih
    rw [iter_eq, m_cocketref01_Good_l1, h, h3]
    simp only [cond_true, h1, Option.bind_some, List.all_cons]
    rw [wrap_i64_eq (by omega)]
    rcases Bool.eq_false_or_eq_true (offerOk n o) with hok | hok
    · rw [hok, Bool.true_and]
      simp only [offerOk, goodOffer, Bool.and_eq_true, decide_eq_true_eq] at hok
      have : ((((((((decide (o.From < 0)) || (decide (n ≤ o.From))) || (decide (o.To < 0))) || (decide (n ≤ o.To))) || (decide (o.From = o.To))) || (decide (o.Num < 1))) || (decide (50 < o.Num))) || (decide (o.Den < 1)) || (decide (50 < o.Den))) = false := by
        simp only [Bool.or_eq_false_iff, decide_eq_false_iff_not]
        have := hok.2
        omega
      rw [this]
      simp only [cond_false, Option.bind_some]
      exact ih
    · rw [hok, Bool.false_and]
      have : ((((((((decide (o.From < 0)) || (decide (n ≤ o.From))) || (decide (o.To < 0))) || (decide (n ≤ o.To))) || (decide (o.From = o.To))) || (decide (o.Num < 1))) || (decide (50 < o.Num))) || (decide (o.Den < 1)) || (decide (50 < o.Den))) = true := by
        simp only [offerOk, goodOffer, Bool.and_eq_false_iff, decide_eq_false_iff_not] at hok
        simp only [Bool.or_eq_true, decide_eq_true_eq]
        omega
      rw [this]
      rfl
theorem Good_eq (n : Int) (l : List Offer) : m_cocketref01_Good n l = some (ofCode n l) := by
  unfold m_cocketref01_Good ofCode
  by_cases h1 : n < 2 ∨ 6 < n
  · have : (decide (n < 2) || decide (6 < n)) = true := by simpa using h1
    rw [this, if_pos h1]; rfl
  have e1 : (decide (n < 2) || decide (6 < n)) = false := by simpa using h1
  rw [e1, if_neg h1]
  simp only [cond_false]
  by_cases h2 : 40 < l.length
  · have : decide (40 < (l.length : Int)) = true := by simp; omega
    rw [this, if_pos h2]; rfl
  have e2 : decide (40 < (l.length : Int)) = false := by simp; omega
  rw [e2, if_neg h2]
  simp only [cond_false]
  rw [Good_l1 n l (by omega) _ 0 rfl (by omega)]
  simp only [Int.toNat_zero, List.drop_zero, Option.bind_some]
  cases l.all (offerOk n) with
  | true => rfl
  | false => rfl
theorem ofCode_zero {n : Int} {l : List Offer} (h : ofCode n l = 0) : 2 ≤ n ∧ n ≤ 6 ∧ l.length ≤ 40 ∧ ∀ o ∈ l, offerOk n o = true := by
  unfold ofCode at h
  split at h
  · cases h
  split at h
  · cases h
  rename_i h1 h2
  rcases Bool.eq_false_or_eq_true (l.all (offerOk n)) with h3 | h3
  · rw [List.all_eq_true] at h3
    exact ⟨by omega, by omega, by omega, h3⟩
  · rw [h3] at h; cases h
end Go.Pv

set_option linter.unusedSimpArgs false
set_option linter.unusedVariables false
namespace Go.Pv
theorem gcd_some (a b : Int) (ha : 0 ≤ a ∧ a ≤ 9223372036854775807) (hb : 0 ≤ b ∧ b ≤ 9223372036854775807) : m_rate_gcd a b = some (Int.gcd a b : Int) := by
  have key : ∃ x, iter m_rate_gcd_l1 (a, b) = some x ∧ x = (Int.gcd a b : Int) := by
    refine iter_inv (fun s => 0 ≤ s.1 ∧ s.1 ≤ 9223372036854775807 ∧ 0 ≤ s.2 ∧ s.2 ≤ 9223372036854775807 ∧ Int.gcd s.1 s.2 = Int.gcd a b) _ (fun s => s.2.toNat) ?_ ⟨ha.1, ha.2, hb.1, hb.2, rfl⟩
    rintro ⟨x, y⟩ ⟨h1, h2, h3, h4, h5⟩
    dsimp only at h1 h2 h3 h4 h5
    simp only [m_rate_gcd_l1]
    by_cases hy : y = 0
    · subst hy
      simp only [not_true_eq_false, decide_false, cond_false]
      refine ⟨_, rfl, ?_⟩
      rw [← h5]; simp; omega
    · have e : decide (¬y = 0) = true := by simp [hy]
      simp only [e, cond_true]
      rw [guardO_pos (by omega)]
      have e1 := Int.emod_nonneg x (show y ≠ 0 by omega)
      have e2 := Int.emod_lt_of_pos x (show 0 < y by omega)
      rw [tmod_eq h1]
      refine ⟨_, rfl, ⟨h3, h4, e1, by dsimp only; omega, ?_⟩, by dsimp only; omega⟩
      rw [← h5, Int.gcd_comm x y]
      dsimp only
      have := Int.gcd_add_mul_left_right y (x % y) (x / y)
      rw [Int.emod_add_mul_ediv] at this
      exact this.symm
  obtain ⟨x, h1, h2⟩ := key
  simp only [m_rate_gcd, h1, Option.bind_some, h2]
theorem ratio_some (a b : Int) (ha : 1 ≤ a ∧ a ≤ 9223372036854775807) (hb : 1 ≤ b ∧ b ≤ 9223372036854775807) : m_rate_ratio a b = some (ratioN a b) := by
  have hg : 0 < Int.gcd a b := Int.gcd_pos_of_ne_zero_left _ (by omega)
  have e1 : 0 ≤ a / (Int.gcd a b : Int) := Int.ediv_nonneg (by omega) (by omega)
  have e2 : 0 ≤ b / (Int.gcd a b : Int) := Int.ediv_nonneg (by omega) (by omega)
  have e3 : a / (Int.gcd a b : Int) ≤ a := Int.ediv_le_self _ (by omega)
  have e4 : b / (Int.gcd a b : Int) ≤ b := Int.ediv_le_self _ (by omega)
  have e0 : (Int.gcd a b : Int) ≠ 0 := by omega
  simp only [m_rate_ratio, gcd_some a b ⟨by omega, ha.2⟩ ⟨by omega, hb.2⟩, Option.bind_some]
  rw [guardO_pos e0, guardO_pos e0, tdiv_eq (by omega), tdiv_eq (by omega), wrap_i64_eq (by omega), wrap_i64_eq (by omega)]
  rfl
theorem ediv_bounds {x : Int} (g : Nat) (hx : 1 ≤ x) : 0 ≤ x / (g : Int) ∧ x / (g : Int) ≤ x :=
  ⟨Int.ediv_nonneg (by omega) (by omega), Int.ediv_le_self _ (by omega)⟩
theorem mul_bounds {x y a b : Int} (hx : 0 ≤ x ∧ x ≤ a) (hy : 0 ≤ y ∧ y ≤ b) : 0 ≤ x * y ∧ x * y ≤ a * b :=
  ⟨Int.mul_nonneg hx.1 hy.1, Int.mul_le_mul hx.2 hy.2 hy.1 (by omega)⟩
theorem times_some (p q : Ratio) (hp : 1 ≤ p.Num ∧ p.Num ≤ 9223372036854775807) (hq : 1 ≤ p.Den ∧ p.Den ≤ 9223372036854775807) (hr : 1 ≤ q.Num ∧ q.Num ≤ 9223372036854775807) (hs : 1 ≤ q.Den ∧ q.Den ≤ 9223372036854775807)
    (h1 : p.Num * q.Num ≤ 9223372036854775807) (h2 : p.Den * q.Den ≤ 9223372036854775807) : m_rate_times p q = some (timesN p q) := by
  have g1 : 0 < Int.gcd p.Num q.Den := Int.gcd_pos_of_ne_zero_left _ (by omega)
  have g2 : 0 < Int.gcd q.Num p.Den := Int.gcd_pos_of_ne_zero_left _ (by omega)
  have e1 := ediv_bounds (Int.gcd p.Num q.Den) hp.1
  have e2 := ediv_bounds (Int.gcd p.Num q.Den) hs.1
  have e3 := ediv_bounds (Int.gcd q.Num p.Den) hr.1
  have e4 := ediv_bounds (Int.gcd q.Num p.Den) hq.1
  have m1 := mul_bounds e1 e3
  have m2 := mul_bounds e4 e2
  have n1 : (Int.gcd p.Num q.Den : Int) ≠ 0 := by omega
  have n2 : (Int.gcd q.Num p.Den : Int) ≠ 0 := by omega
  simp only [m_rate_times, gcd_some p.Num q.Den ⟨by omega, hp.2⟩ ⟨by omega, hs.2⟩, gcd_some q.Num p.Den ⟨by omega, hr.2⟩ ⟨by omega, hq.2⟩, Option.bind_some]
  rw [guardO_pos n1, guardO_pos n2, guardO_pos n2, guardO_pos n1]
  simp (disch := omega) only [tdiv_eq, wrap_i64_eq]
  rfl
theorem ediv_pos1 {x : Int} (g : Nat) (hg : 0 < g) (hx : 1 ≤ x) (hd : (g : Int) ∣ x) : 1 ≤ x / (g : Int) := by
  obtain ⟨c, rfl⟩ := hd
  rw [Int.mul_ediv_cancel_left _ (by omega)]
  rcases Int.lt_or_le c 1 with h | h
  · have := Int.mul_le_mul_of_nonneg_left (show c ≤ 0 by omega) (show (0 : Int) ≤ g by omega)
    omega
  · exact h
theorem ratioN_bounds {a b n : Int} (ha : 1 ≤ a ∧ a ≤ n) (hb : 1 ≤ b ∧ b ≤ n) : 1 ≤ (ratioN a b).Num ∧ (ratioN a b).Num ≤ n ∧ 1 ≤ (ratioN a b).Den ∧ (ratioN a b).Den ≤ n := by
  have hg : 0 < Int.gcd a b := Int.gcd_pos_of_ne_zero_left _ (by omega)
  have e1 := ediv_bounds (Int.gcd a b) ha.1
  have e2 := ediv_bounds (Int.gcd a b) hb.1
  have p1 := ediv_pos1 _ hg ha.1 (Int.gcd_dvd_left _ _)
  have p2 := ediv_pos1 _ hg hb.1 (Int.gcd_dvd_right _ _)
  simp only [ratioN]
  omega
theorem mul_pos1 {x y : Int} (hx : 1 ≤ x) (hy : 1 ≤ y) : 1 ≤ x * y := by
  have := Int.mul_pos (show 0 < x by omega) (show 0 < y by omega)
  omega
theorem timesN_bounds {p q : Ratio} {a b : Int} (h1 : 1 ≤ p.Num ∧ p.Num ≤ a) (h2 : 1 ≤ p.Den ∧ p.Den ≤ a) (h3 : 1 ≤ q.Num ∧ q.Num ≤ b) (h4 : 1 ≤ q.Den ∧ q.Den ≤ b) :
    1 ≤ (timesN p q).Num ∧ (timesN p q).Num ≤ a * b ∧ 1 ≤ (timesN p q).Den ∧ (timesN p q).Den ≤ a * b := by
  have g1 : 0 < Int.gcd p.Num q.Den := Int.gcd_pos_of_ne_zero_left _ (by omega)
  have g2 : 0 < Int.gcd q.Num p.Den := Int.gcd_pos_of_ne_zero_left _ (by omega)
  have e1 := ediv_bounds (Int.gcd p.Num q.Den) h1.1
  have e2 := ediv_bounds (Int.gcd p.Num q.Den) h4.1
  have e3 := ediv_bounds (Int.gcd q.Num p.Den) h3.1
  have e4 := ediv_bounds (Int.gcd q.Num p.Den) h2.1
  have p1 := ediv_pos1 _ g1 h1.1 (Int.gcd_dvd_left _ _)
  have p2 := ediv_pos1 _ g1 h4.1 (Int.gcd_dvd_right _ _)
  have p3 := ediv_pos1 _ g2 h3.1 (Int.gcd_dvd_left _ _)
  have p4 := ediv_pos1 _ g2 h2.1 (Int.gcd_dvd_right _ _)
  have m1 := mul_bounds (a := a) (b := b) ⟨e1.1, by omega⟩ ⟨e3.1, by omega⟩
  have m2 := mul_bounds (a := a) (b := b) ⟨e4.1, by omega⟩ ⟨e2.1, by omega⟩
  have n1 := mul_pos1 p1 p3
  have n2 := mul_pos1 p4 p2
  simp only [timesN]
  exact ⟨n1, m1.2, n2, m2.2⟩
end Go.Pv

set_option linter.unusedSimpArgs false
set_option linter.unusedVariables false
namespace Go.Pv
theorem pow50_le {a b : Nat} (h : a ≤ b) : (50 : Int) ^ a ≤ 50 ^ b := by
  induction b with
  | zero => have : a = 0 := by omega
            subst this; exact Int.le_refl _
  | succ b ih =>
    rcases Nat.lt_or_ge a (b + 1) with h1 | h1
    · have := ih (by omega)
      have h0 : (0 : Int) ≤ 50 ^ b := Int.pow_nonneg (by omega)
      rw [Int.pow_succ]; omega
    · have : a = b + 1 := by omega
      subst this; exact Int.le_refl _
end Go.Pv

