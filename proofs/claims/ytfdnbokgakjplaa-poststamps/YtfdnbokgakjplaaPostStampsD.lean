/- PostStamps answers true for every input, and its arguments read as they did: as its row says (Rows), under the conditions of the row, no more. Part 4 of 8: by one AI agent and its programs; no person has read it. -/
import Derived.Test.YtfdnbokgakjplaaPostStampsA
import Derived.Test.YtfdnbokgakjplaaPostStampsB
import Derived.Test.YtfdnbokgakjplaaPostStampsC
set_option linter.unusedSimpArgs false
set_option linter.unusedVariables false
set_option linter.all false

namespace Go.Pv
mutual
def noRef : PD → Bool
  | .imm _ [] => true
  | .imm _ (_ :: _) => false
  | .agg l => noRefL l
  | .iface _ v => noRef v
  | _ => true
def noRefL : List PD → Bool
  | [] => true
  | x :: l => noRef x && noRefL l
end
theorem noRefL_get : ∀ {l : List PD}, noRefL l = true → ∀ i (hi : i < l.length), noRef l[i] = true
  | [], _, i, hi => by simp at hi
  | x :: l, h, 0, _ => by simp only [noRefL, Bool.and_eq_true] at h; exact h.1
  | x :: l, h, i + 1, hi => by simp only [noRefL, Bool.and_eq_true] at h; simpa using noRefL_get h.2 i (by simpa using hi)
theorem RepD.noRef {w w' : World} {ok ok' : Nat → Nat → Prop} {v : Value} {p : PD} (h : RepD w ok v p) : noRef p = true → RepD w' ok' v p := by
  induction h with
  | bool b => intro _; exact .bool b
  | int k n => intro _; exact .int k n
  | str s => intro _; exact .str s
  | nilptr => intro _; exact .nilptr
  | nilslice => intro _; exact .nilslice
  | nilmap => intro _; exact .nilmap
  | nilfunc => intro _; exact .nilfunc
  | niliface => intro _; exact .niliface
  | fn f => intro _; exact .fn f
  | iface t _ ih => intro h; simp only [Pv.noRef] at h; exact .iface t (ih h)
  | agg hs _ hf ih => intro h; simp only [Pv.noRef] at h; exact .agg hs (fun i hi => ih i hi (noRefL_get h i hi)) hf
  | imm0 k => intro _; exact .imm0 k
  | @imm a n cap k els F ha hb hn hcap _ hk hf hc hz ih =>
    intro h
    cases els with
    | cons x l => simp [Pv.noRef] at h
    | nil => exact .imm F (fun h => absurd rfl h) (fun h => absurd rfl h) hn hcap (fun i hi => by simp at hi) (fun i hi => by simp at hi) (fun i hi => by simp at hi) (fun i hi => by simp at hi) (fun i hi => by simp at hi)
mutual
def shp : PD → PD → Prop
  | .int k _, y => ∃ n, y = .int k n
  | .imm k els, y => ∃ m, y = .imm k m ∧ shpL els m
  | .agg els, y => ∃ m, y = .agg m ∧ shpL els m
  | .iface t v, y => ∃ u, y = .iface t u ∧ shp v u
  | x, y => y = x
def shpL : List PD → List PD → Prop
  | [], m => m = []
  | x :: l, m => ∃ y t, m = y :: t ∧ shp x y ∧ shpL l t
end
theorem shpL_of : ∀ {l m : List PD}, l.length = m.length → (∀ i (hi : i < l.length) (hi' : i < m.length), shp l[i] m[i]) → shpL l m
  | [], [], _, _ => by simp only [shpL]
  | x :: l, y :: m, h1, h2 => by
    simp only [shpL]
    exact ⟨y, m, rfl, h2 0 (by simp) (by simp), shpL_of (by simpa using h1) fun i hi hi' => h2 (i + 1) (Nat.succ_lt_succ hi) (Nat.succ_lt_succ hi')⟩
  | [], _ :: _, h, _ => by simp at h
  | _ :: _, [], h, _ => by simp at h
mutual
theorem shp_refl : ∀ x : PD, shp x x
  | .int k n => by simp only [shp]; exact ⟨n, rfl⟩
  | .imm k els => by simp only [shp]; exact ⟨els, rfl, shpL_refl els⟩
  | .agg els => by simp only [shp]; exact ⟨els, rfl, shpL_refl els⟩
  | .iface t v => by simp only [shp]; exact ⟨v, rfl, shp_refl v⟩
  | .bool _ | .str _ | .nilptr | .nilslice | .nilmap | .nilfunc | .niliface | .fn _ => by simp only [shp]
theorem shpL_refl : ∀ l : List PD, shpL l l
  | [] => by simp only [shpL]
  | x :: l => by simp only [shpL]; exact ⟨x, l, rfl, shp_refl x, shpL_refl l⟩
end
mutual
theorem shp_trans : ∀ {x y z : PD}, shp x y → shp y z → shp x z
  | .int k n, y, z, h, h' => by
    simp only [shp] at h; obtain ⟨m, rfl⟩ := h; simp only [shp] at h'; obtain ⟨m', rfl⟩ := h'; simp only [shp]; exact ⟨m', rfl⟩
  | .imm k els, y, z, h, h' => by
    simp only [shp] at h; obtain ⟨m, rfl, h1⟩ := h; simp only [shp] at h'; obtain ⟨m', rfl, h2⟩ := h'; simp only [shp]; exact ⟨m', rfl, shpL_trans h1 h2⟩
  | .agg els, y, z, h, h' => by
    simp only [shp] at h; obtain ⟨m, rfl, h1⟩ := h; simp only [shp] at h'; obtain ⟨m', rfl, h2⟩ := h'; simp only [shp]; exact ⟨m', rfl, shpL_trans h1 h2⟩
  | .iface t v, y, z, h, h' => by
    simp only [shp] at h; obtain ⟨m, rfl, h1⟩ := h; simp only [shp] at h'; obtain ⟨m', rfl, h2⟩ := h'; simp only [shp]; exact ⟨m', rfl, shp_trans h1 h2⟩
  | .bool _, y, z, h, h' => by simp only [shp] at h; subst h; exact h'
  | .str _, y, z, h, h' => by simp only [shp] at h; subst h; exact h'
  | .nilptr, y, z, h, h' => by simp only [shp] at h; subst h; exact h'
  | .nilslice, y, z, h, h' => by simp only [shp] at h; subst h; exact h'
  | .nilmap, y, z, h, h' => by simp only [shp] at h; subst h; exact h'
  | .nilfunc, y, z, h, h' => by simp only [shp] at h; subst h; exact h'
  | .niliface, y, z, h, h' => by simp only [shp] at h; subst h; exact h'
  | .fn _, y, z, h, h' => by simp only [shp] at h; subst h; exact h'
theorem shpL_trans : ∀ {x y z : List PD}, shpL x y → shpL y z → shpL x z
  | [], y, z, h, h' => by simp only [shpL] at h; subst h; exact h'
  | x :: l, y, z, h, h' => by
    simp only [shpL] at h; obtain ⟨y1, t, rfl, h1, h2⟩ := h
    simp only [shpL] at h'; obtain ⟨z1, t', rfl, h3, h4⟩ := h'
    simp only [shpL]; exact ⟨z1, t', rfl, shp_trans h1 h3, shpL_trans h2 h4⟩
end
def setCellV (v : Value) (j : Nat) (u : Value) : Value :=
  match v with
  | .agg vs => .agg (vs.setIfInBounds j u)
  | _ => u
theorem RepD.int_of {w : World} {ok : Nat → Nat → Prop} {k : IntKind} {n : Int} {p : PD} (h : RepD w ok (.int k n) p) : p = .int k n := by cases h; rfl
theorem RepD.setCellV {w : World} {ok : Nat → Nat → Prop} {v : Value} {p : PD} {j : Nat} {k : IntKind} {n m : Int} (h : RepD w ok v p) (hj : j < v.cells.size) (hc : v.cells.getD j undef = .int k n) : ∃ q, shp p q ∧ RepD w ok (Pv.setCellV v j (.int k m)) q := by
  by_cases ha : ∃ vs, v = .agg vs
  · obtain ⟨vs, rfl⟩ := ha
    simp only [Value.cells] at hj hc
    cases h with
    | @agg _ ps hs hr hf =>
      have hjl : j < ps.length := hs ▸ hj
      have h1 := hr j hjl
      rw [hc] at h1
      have h2 := h1.int_of
      refine ⟨.agg (ps.set j (.int k m)), ?_, ?_⟩
      · simp only [shp]
        refine ⟨_, rfl, shpL_of (by simp) fun i hi hi' => ?_⟩
        by_cases h : i = j
        · subst h; rw [h2]; simp only [List.getElem_set_self, shp]; exact ⟨_, rfl⟩
        · rw [List.getElem_set_ne (Ne.symm h)]; exact shp_refl _
      · simp only [Pv.setCellV]
        have hg : ∀ i, i < ps.length → (vs.setIfInBounds j (.int k m)).getD i undef = if i = j then .int k m else vs.getD i undef := fun i hi => by
          have hi' : i < vs.size := hs ▸ hi
          by_cases h : i = j
          · subst h; simp [Array.getD, hi']
          · rw [if_neg h]; simp [Array.getD, hi', Array.getElem_setIfInBounds, Ne.symm h]
        refine .agg (by simp [hs]) (fun i hi => ?_) (fun i hi => ?_)
        · have hi' : i < ps.length := by simpa using hi
          rw [hg i hi']
          by_cases h : i = j
          · subst h; rw [if_pos rfl]; simp only [List.getElem_set_self]; exact .int k m
          · rw [if_neg h, List.getElem_set_ne (Ne.symm h)]; exact hr i hi'
        · have hi' : i < ps.length := by simpa using hi
          rw [hg i hi']
          split
          · rfl
          · exact hf i hi'
  · have hv : v = .int k n := by
      cases v <;> first | exact absurd ⟨_, rfl⟩ ha | (simp only [Value.cells] at hj hc; have : j = 0 := by (simpa using hj)
                                                      subst this; exact hc)
    subst hv
    have := h.int_of
    subst this
    exact ⟨.int k m, by simp only [shp]; exact ⟨_, rfl⟩, .int k m⟩
structure Poked (w w' : World) (b p : Nat) (k : IntKind) (n m : Int) : Prop where
  was : w.cell? ⟨b, p, none⟩ = some (.int k n)
  cell : ∀ c o, w'.cell? ⟨c, o, none⟩ = if c = b ∧ o = p then some (.int k m) else w.cell? ⟨c, o, none⟩
  froz : ∀ a, w'.frozen? a = w.frozen? a
end Go.Pv

namespace Go.Pv
mutual
def sizD (f : Nat → Bool) : PD → Bool
  | .imm _ [] => true
  | .imm k (x :: l) => f k && sizD f x && sizL f l
  | .agg l => sizL f l
  | .iface _ v => sizD f v
  | _ => true
def sizL (f : Nat → Bool) : List PD → Bool
  | [] => true
  | x :: l => sizD f x && sizL f l
end
theorem sizL_get {f : Nat → Bool} : ∀ {l : List PD}, sizL f l = true → ∀ i (hi : i < l.length), sizD f l[i] = true
  | [], _, i, hi => by simp at hi
  | x :: l, h, 0, _ => by simp only [sizL, Bool.and_eq_true] at h; exact h.1
  | x :: l, h, i + 1, hi => by simp only [sizL, Bool.and_eq_true] at h; simpa using sizL_get h.2 i (by simpa using hi)
theorem RepD.siz {w : World} {ok : Nat → Nat → Prop} {f : Nat → Bool} {v : Value} {x : PD} (h : RepD w ok v x) : sizD f x = true → RepD w (fun b k => ok b k ∧ f k = true) v x := by
  induction h with
  | bool b => intro _; exact .bool b
  | int k n => intro _; exact .int k n
  | str s => intro _; exact .str s
  | nilptr => intro _; exact .nilptr
  | nilslice => intro _; exact .nilslice
  | nilmap => intro _; exact .nilmap
  | nilfunc => intro _; exact .nilfunc
  | niliface => intro _; exact .niliface
  | fn f => intro _; exact .fn f
  | iface t _ ih => intro h; simp only [sizD] at h; exact .iface t (ih h)
  | agg hs _ hf ih => intro h; simp only [sizD] at h; exact .agg hs (fun i hi => ih i hi (sizL_get h i hi)) hf
  | imm0 k => intro _; exact .imm0 k
  | @imm a n cap k els F ha hb hn hcap hr hk hf hc hz ih =>
    intro h
    cases els with
    | nil => exact .imm F (fun h => absurd rfl h) (fun h => absurd rfl h) hn hcap (fun i hi => by simp at hi) (fun i hi => by simp at hi) (fun i hi => by simp at hi) (fun i hi => by simp at hi) (fun i hi => by simp at hi)
    | cons x l =>
      simp only [sizD, Bool.and_eq_true] at h
      obtain ⟨⟨h1, h2⟩, h3⟩ := h
      have hall : sizL f (x :: l) = true := by simp only [sizL, Bool.and_eq_true]; exact ⟨h2, h3⟩
      exact .imm F ha (fun hne => ⟨hb hne, h1⟩) hn hcap (fun i hi => ih i hi (sizL_get hall i hi)) hk hf hc hz
def noRefG (G : List (Nat × PD)) : Prop := ∀ g x, (g, x) ∈ G → noRef x = true
def isLst : PD → Bool
  | .nilslice => true
  | .imm _ _ => true
  | _ => false
theorem hdr_of {w : World} {ok : Nat → Nat → Prop} {v : Value} {x : PD} (h : RepD w ok v x) (hx : isLst x = true) : ∃ l, hdr l = v := by
  cases h with
  | nilslice => exact ⟨[], rfl⟩
  | imm0 => exact ⟨[], rfl⟩
  | @imm a n cap k els F ha hb hn hcap _ hk hf hc =>
    obtain ⟨b, o, s⟩ := a
    cases s with
    | none => exact ⟨[.int .i64 b, .int .i64 o, .int .i64 n, .int .i64 cap, .int .i64 0], by simp [hdr]⟩
    | some s => exact ⟨[.int .i64 b, .int .i64 o, .int .i64 n, .int .i64 cap, .int .i64 (s + 1)], by simp [hdr]; omega⟩
  | _ => simp [isLst] at hx
theorem flat_hdr (l : List PD) : flat (hdr l) = true := by
  unfold hdr; split <;> rfl
section
variable {P : Program} {G : List (Nat × PD)} {ro : Option Nat} {N : Nat} {σ : St} {B : Base P} {a : Act} {w : World} {φ : Nm}
theorem Rep.part (hr : Rep G B N σ a w φ) {l : Nat} {m : PD} {ys : List PD} {c : Bool} (hg : σ.gh = some (l, [], m :: ys, c)) : B.fr = true ∧ J0 ys (B.mine φ σ.heap) φ.T w := by
  have h := hr.inv
  rw [hg] at h
  rcases h with h | ⟨h1, _, m', ys', h2, h3⟩
  · have := h.2.1 rfl; cases this
  · simp only [List.cons.injEq] at h2; obtain ⟨rfl, rfl⟩ := h2; exact ⟨h1, h3⟩
theorem repV_val {X : Nat → Nat → Prop} {H : Heap} {v u : Value} (h : RepV w X φ H v (.val u)) : v = u := by cases h; rfl
def bOnly (f : Nat → Bool) : PV → Bool
  | .any => true
  | .b _ => true
  | .d x => sizD f x
  | _ => false
def Base.fresh (P : Program) (f : Nat → Bool) (w : World) : Base P :=
  { w0 := w, X := fun b k => b < w.heap.size ∧ f k = false, hX := fun _ _ h => h.1, o0 := fun _ => False, φ0 := fun _ => none, z0 := csz w, ro := none, held := [], hheld := fun _ => rfl, J := fun _ _ _ _ => True, stab := fun _ _ _ _ _ _ _ _ _ _ _ _ _ => trivial, y := none, yok := fun _ _ h => by cases h }
theorem RepV.rebase {X : Nat → Nat → Prop} {f : Nat → Bool} {v : Value} {q : PV} (h : RepV w X Nm.no [] v q) (hq : bOnly f q = true) : RepV w (Base.fresh P f w).X Nm.no [] v q := by
  cases h with
  | any v => exact .any v
  | b h => exact .b h
  | d h => simp only [bOnly] at hq; exact .d ((h.siz hq).mono (fun b k hb => ⟨hb.1.1, fun h => (by have := h.2; rw [hb.2] at this; cases this), hb.1.2.2⟩) (fun _ _ _ => rfl))
  | _ => simp [bOnly] at hq
theorem OpT.fresh {o : Oper} {c : Call} {f : FuncId} {args : List PV} {x : PD} {zs : List PD} {l0 : Nat} {m : PD} {ys : List PD} {d0 : Bool} {K : St → Prop} (j : Nat) (s : Nat → Bool) (hs0 : s 0 = true) (hG : ∀ g z, (g, z) ∈ G → sizD s z = true) (hgh : σ.gh = some (l0, [], m :: ys, d0))
    (ho : o.op = .call c) (hc : c.callee = .value (.func f)) (hcal : callable P f = true) (hf : PureFn P G f args (.tuple (zs.map .d))) (hj : zs[j]? = some x) (ha : argsOk σ.heap (evalL σ c.args.toList) args) (hb : args.all (bOnly s) = true)
    (hx : isLst x = true) (hav : sizD (fun k => !s k) x = true) (hy : ∀ i, i ≠ j → ∀ z, zs[i]? = some z → noRef z = true) (hd : dstOk N o.dst) (hK : ∀ h, K (({ σ with gh := some (l0, [], m :: x :: h, d0) } : St).put o.dst (.tuple ((zs.map .d).set j (.val (hdr h)))))) : OpT P G ro N o σ K := by
  intro B hro a w φ hr next Q hn
  obtain ⟨h1, h2⟩ := argsOk_get ha
  obtain ⟨h3, h4⟩ := evalL_ok hr c.args.toList
  have hsit : Sit G (Base.fresh P s w) w Nm.no [] none := by
    refine ⟨⟨fun r x b h => by simp [hget] at h, fun r x h => by simp [hget] at h, fun r s x y b h => by simp [hget] at h, fun b h => h.elim⟩, .refl _ _, fun r x b h => by simp [hget] at h, fun r x h => by simp [hget] at h, fun r x b h => by simp [hget] at h, fun g x hm => ?_, fun b h => h.elim, fun b h => h⟩
    obtain ⟨cs, e, f, v, h5, h6, h7, h8, h9⟩ := hr.glob g x hm
    exact ⟨cs, e, f, v, h5, no_own g, (h7.siz (hG g x hm)).mono (fun b k hb => ⟨hb.1.1, fun h => (by have := h.2; rw [hb.2] at this; cases this), no_own b⟩) (fun _ _ _ => rfl), h8, h9.1, fun h => by have := h.2; rw [hs0] at this; cases this⟩
  have hcall := hf (Base.fresh P s w) Nm.no (c.args.toList.map a.eval) rfl (h3.trans h1) (fun i hi => (argOk_ok hr (h4 i (h1 ▸ hi)) (h2 i (h1 ▸ hi) hi)).rebase (List.all_eq_true.1 hb _ (List.getElem_mem hi))) hsit
  have hrun : (o.semAt ro a.eval).run P w = .ok (.enter f (c.args.toList.map a.eval).toArray) w := by
    rw [Oper.semAt_eq _ _ _ (fun c hc => by rw [ho] at hc; cases hc)]
    have e1 : (c.args.toList.map a.eval).toArray = c.args.map a.eval := by rw [← Array.toList_map]
    have e2 : (#[] ++ c.args.map a.eval ++ #[] : Array Value) = c.args.map a.eval := by simp
    simp only [execOp, ho, resolve, hc, Act.eval, Deferred.ofValue, Sem.run_bind, Sem.run_pure, Result.andThen_ok, invoke, e1, e2]
    exact run_callFunc hcal _ w
  refine ⟨fun _ _ => trivial, ?_⟩
  show o.uponIn (Fw ro) 0 P a next Q ((o.semAt ro a.eval).run P w)
  rw [hrun]
  refine ⟨fun h => (by cases h), ?_⟩
  refine CallsIn.mono (R := fun e w' => ∃ v p H' g' φ', e = .returned v ∧ (p = PV.tuple (zs.map .d) ∧ H' = []) ∧ RepV w' (Base.fresh P s w).X φ' H' v p ∧ Sit G (Base.fresh P s w) w' φ' H' g') hcall ?_
  rintro e w' ⟨v, p, H', g', φ', rfl, ⟨rfl, rfl⟩, h5, h6⟩
  have hk := h6.keeps
  have hblk : ∀ b, b < w.heap.size → w'.heap[b]? = w.heap[b]? := fun b h => hk.block b h (fun h => h)
  have hsz : w.heap.size ≤ w'.heap.size := hk.size
  cases h5 with
  | @tuple vs _ hs hr2 =>
    obtain ⟨hjl, hjx⟩ := List.getElem?_eq_some_iff.1 hj
    have hz0 : ∀ i (hi : i < zs.length), RepD w' (okd w' (Base.fresh P s w).X φ' []) (vs.getD i undef) zs[i] := fun i hi => by
      have := hr2 i (by simpa using hi)
      simp only [List.getElem_map] at this
      exact repV_d this
    have hx0 : RepD w' (okd w' (Base.fresh P s w).X φ' []) (vs.getD j undef) x := hjx ▸ hz0 j hjl
    have hx1 : RepD w' (fun b _ => w.heap.size ≤ b ∧ b < w'.heap.size) (vs.getD j undef) x := by
      refine (hx0.siz hav).mono (fun b k hb => ⟨?_, hb.1.1⟩) (fun _ _ _ => rfl)
      by_cases h : w.heap.size ≤ b
      · exact h
      · exact absurd ⟨Nat.lt_of_not_le h, by simpa using hb.2⟩ hb.1.2.1
    obtain ⟨hh, hhv⟩ := hdr_of hx1 hx
    let φ2 : Nm := ⟨φ.f, fun b => φ.T b ∨ (w.heap.size ≤ b ∧ b < w'.heap.size)⟩
    have hrowlt : ∀ b, rowB φ2 σ.heap b → b < w.heap.size := fun b ⟨r, x, g1, g2⟩ => hr.heap.lt g1 g2
    have hown : ∀ b, b < w.heap.size → own φ2 σ.heap b → own φ σ.heap b := fun b hb h => h.elim .inl (fun h => h.elim .inr (fun h => by omega))
    have hrb : ∀ r x b, hget σ.heap r = some x → φ r = some b → w'.heap[b]? = w.heap[b]? := fun r x b g1 g2 => hblk b (hr.heap.lt g1 g2)
    have hext : Ext w B.X φ σ.heap w' φ2 σ.heap := ⟨fun r x h => ⟨x, h, rfl, fun _ => rfl, rfl⟩, fun b kk h => ⟨Nat.lt_of_lt_of_le h.1 hsz, h.2.1, fun ho => h.2.2 (hown b h.1 ho)⟩, fun b kk h => ⟨Nat.lt_of_lt_of_le h.1 hsz, fun ho => h.2 (hown b h.1 ho)⟩,
      fun b kk h => hblk b h.1, fun r x b g1 g2 c e f hh => ⟨c, e, f, (hrb r x b g1 g2) ▸ hh, rfl⟩⟩
    have hfar : ∀ b, φ2.T b → b < w'.heap.size ∧ (∀ kk, ¬ B.X b kk) ∧ ¬ rowB φ2 σ.heap b := fun b hb => by
      rcases hb with hb | hb
      · obtain ⟨g1, g2, g3⟩ := hr.heap.far b hb
        exact ⟨Nat.lt_of_lt_of_le g1 hsz, g2, g3⟩
      · exact ⟨hb.2, fun kk hX => by have := B.hX b _ hX; have := hr.keeps.size; omega, fun h => by have := hrowlt b h; omega⟩
    have hrep : Rep G B N { σ with gh := some (l0, [], m :: x :: hh, d0) } a w' φ2 := by
      refine ⟨hr.size, fun t => (hr.env t).ext hext, ⟨fun r x b g1 g2 => (hr.heap.rows r x b g1 g2).ext hext (hrb r x b g1 g2), hr.heap.void, hr.heap.inj, hfar⟩,
        hr.keeps.trans ⟨hk.os, hk.tape, hk.output, hk.size, fun b hb _ => hblk b hb⟩, hr.new, hr.pins, fun r x b g1 g2 g3 => (csz_of (hrb r x b g1 g3)).trans (hr.psz r x b g1 g2 g3), hr.glob.ext hext (fun n z hm => ?_), fun b hb => ?_, ?_, ?_⟩
      · obtain ⟨c, e, f, v, g1, g2, _⟩ := hr.glob n z hm
        exact fun ho => g2 (hown n (Array.getElem?_eq_some_iff.1 g1).1 ho)
      · rcases hb with hb | hb
        · exact hr.tnew b hb
        · exact .inr (Nat.le_trans hr.keeps.size hb.1)
      · obtain ⟨q1, _⟩ := hr.part hgh
        refine .inr ⟨q1, rfl, m, x :: hh, rfl, fun b hb => ⟨(hfar b hb).1, fun kk hm => hm.elim ((hfar b hb).2.1 kk) (hfar b hb).2.2⟩, fun x' h' e => ?_⟩
        simp only [List.cons.injEq] at e
        obtain ⟨rfl, rfl⟩ := e
        rw [hhv]
        exact hx1.mono (fun b k hb => .inr hb) (fun _ _ _ => rfl)
      · exact (hr.dfr.ext hext).wide fun D hD => absurd hD.1 (by rw [hgh]; simp)
    refine hn _ _ _ φ2 (hK hh) (hrep.put hd (.tuple (by simpa using hs) (fun i hi => ?_)))
    have hi' : i < zs.length := by simpa using hi
    by_cases hij : i = j
    · subst hij
      simp only [List.getElem_set_self]
      rw [← hhv]; exact .val (flat_hdr hh)
    · rw [List.getElem_set_ne (Ne.symm hij)]
      simp only [List.getElem_map]
      exact .d ((hz0 i hi').noRef (hy i hij _ (List.getElem?_eq_getElem hi')))
def Base.part (B : Base P) : Base P := { B with fr := true }
def borL : List PV → List PV → Prop
  | [], [] => True
  | p :: l, q :: m => (q = p ∨ ∃ x, p = .d x ∧ q = .b x) ∧ borL l m
  | _, _ => False
theorem borL_get : ∀ {l m : List PV}, borL l m → l.length = m.length ∧ ∀ i (hi : i < l.length) (hi' : i < m.length), m[i] = l[i] ∨ ∃ x, l[i] = .d x ∧ m[i] = .b x
  | [], [], _ => ⟨rfl, fun i hi => by simp at hi⟩
  | p :: l, q :: m, h => by
    obtain ⟨h1, h2⟩ := borL_get h.2
    refine ⟨by simp [h1], fun i hi hi' => ?_⟩
    cases i with
    | zero => exact h.1
    | succ i => simpa using h2 i (by simpa using hi) (by simpa using hi')
  | [], _ :: _, h => h.elim
  | _ :: _, [], h => h.elim
def dAll : List PV → Bool
  | [] => true
  | .d _ :: l => dAll l
  | _ => false
theorem dAll_get : ∀ {l : List PV}, dAll l = true → ∀ i (hi : i < l.length), ∃ x, l[i] = .d x
  | [], _, i, hi => by simp at hi
  | p :: l, h, i, hi => by
    cases p <;> simp only [dAll, Bool.false_eq_true] at h
    cases i with
    | zero => exact ⟨_, rfl⟩
    | succ i => simpa using dAll_get h i (by simpa using hi)
def Base.bare (B : Base P) : Base P := { B with X := fun _ _ => False, hX := fun _ _ h => h.elim, J := fun _ _ _ _ => True, stab := fun _ _ _ _ _ _ _ _ _ _ _ _ _ => trivial, fr := false, y := none, yok := fun _ _ h => by cases h }
theorem Sit.bare {H : Heap} (hs : Sit G B w φ [] none) : Sit G B.bare w φ [] none := by
  refine ⟨⟨fun r x b h => by simp [hget] at h, fun r x h => by simp [hget] at h, fun r s x y b h => by simp [hget] at h, fun b h => ⟨(hs.heap.far b h).1, fun _ h => h, (hs.heap.far b h).2.2⟩⟩, hs.keeps, fun r x b h => by simp [hget] at h, fun r x h => by simp [hget] at h, fun r x b h => by simp [hget] at h, fun g x hm => ?_, hs.tnew, hs.inv⟩
  obtain ⟨cs, e, f, v, h5, h6, h7, h8, h9⟩ := hs.glob g x hm
  exact ⟨cs, e, f, v, h5, h6, h7.mono (fun b k hb => ⟨hb.1, fun h => h, hb.2.2⟩) (fun _ _ _ => rfl), h8, h9.1, fun h => h⟩
theorem PureFn.bor (hG : noRefG G) {f : FuncId} {args args' : List PV} {x : PD} (h : PureFn P G f args (.d x)) (hx : noRef x = true) (hd : dAll args = true) (hb : borL args args') : PureFn P G f args' (.d x) := by
  intro B φ vs h0 h1 h2 h3
  obtain ⟨hl, hg⟩ := borL_get hb
  have hT : ∀ b, ¬ φ.T b := h3.inv
  refine (h B.bare φ vs h0 (h1.trans hl.symm) (fun i hi => ?_) (Sit.bare (H := []) h3)).mono ?_
  · have h4 := h2 i (hl ▸ hi)
    obtain ⟨z, hz⟩ := dAll_get hd i hi
    rw [hz]
    rcases hg i hi (hl ▸ hi) with e | ⟨y, e1, e2⟩
    · rw [e, hz] at h4
      exact .d ((repV_d h4).mono (fun b k hb => ⟨hb.1, fun h => h, hb.2.2⟩) (fun _ _ _ => rfl))
    · rw [hz] at e1
      simp only [PV.d.injEq] at e1; subst e1
      rw [e2] at h4
      exact .d ((repV_b h4).mono (fun b k hb => ⟨hb.1, fun h => h, hb.2⟩) (fun _ _ _ => rfl))
  · rintro e w' ⟨v, p, H', g', φ', he, ⟨rfl, rfl⟩, hv, hs⟩
    have hno : ∀ b, ¬ own (⟨φ'.f, fun _ => False⟩ : Nm) [] b := fun b h => h.elim (row_nil b) id
    refine ⟨v, .d x, [], none, ⟨φ'.f, fun _ => False⟩, he, ⟨rfl, rfl⟩, .d ((repV_d hv).noRef hx), ⟨⟨fun r x b h => by simp [hget] at h, fun r x h => by simp [hget] at h, fun r s x y b h => by simp [hget] at h, fun b h => h.elim⟩, hs.keeps, fun r x b h => by simp [hget] at h, fun r x h => by simp [hget] at h, fun r x b h => by simp [hget] at h, fun g x hm => ?_, fun b h => h.elim, fun b h => h⟩⟩
    obtain ⟨cs, e, f, v, h5, h6, h7, h8, h9⟩ := hs.glob g x hm
    obtain ⟨cs', e', f', v', k5, k6, k7, k8, k9⟩ := h3.glob g x hm
    exact ⟨cs, e, f, v, h5, hno g, h7.noRef (hG g x hm), h8, h9.1, k9.2⟩
end
end Go.Pv

namespace Go.Pv
def AWpB {P : Program} (B : Base P) (G : List (Nat × PD)) (N : Nat) (c : Code) (σ : St) (Q : Post) : Prop :=
  ∀ a w φ, Rep G B N σ a w φ → ∀ (Q' : Exit → Act → World → Prop), (∀ e σ' a' w' φ', Q e σ' → Rep G B N σ' a' w' φ' → Q' e a' w') → c.wpIn (Fw B.ro) 0 P Q' a w
def AOpsB {P : Program} (B : Base P) (G : List (Nat × PD)) (N : Nat) (ops : Array Oper) (l : List Oper) (σ : St) (Q : St → Prop) : Prop :=
  ∀ a w φ, Rep G B N σ a w φ → ∀ (Q' : Exit → Act → World → Prop), (∀ σ' a' w' φ', Q σ' → Rep G B N σ' a' w' φ' → Q' .normal a' w') → wpL (Fw B.ro) 0 P ops Q' l a w
def OpTB {P : Program} (B : Base P) (G : List (Nat × PD)) (N : Nat) (o : Oper) (σ : St) (K : St → Prop) : Prop :=
  ∀ a w φ, Rep G B N σ a w φ → ∀ (next : Act → World → Prop) (Q : Exit → Act → World → Prop),
    (∀ σ' a' w' φ', K σ' → Rep G B N σ' a' w' φ' → next a' w') → o.wpIn (Fw B.ro) 0 P a w next Q
section
variable {P : Program} {B : Base P} {G : List (Nat × PD)} {N : Nat} {σ τ : St} {ops : Array Oper}
theorem AWpB.of {c : Code} {Q : Post} (h : AWp P G B.ro N c σ Q) : AWpB B G N c σ Q := fun a w φ hr Q' hq => h B rfl a w φ hr Q' hq
theorem AWpB.sub {c : Code} {Q : Post} (hs : Sub G N σ τ) (h : AWpB B G N c τ Q) : AWpB B G N c σ Q :=
  fun a w φ hr Q' hq => let ⟨φ', h1⟩ := hs P B a w φ hr; h a w φ' h1 Q' hq
theorem AWpB.mono {c : Code} {Q Q' : Post} (h : AWpB B G N c σ Q) (hq : ∀ e σ, Q e σ → Q' e σ) : AWpB B G N c σ Q' :=
  fun a w φ hr R hR => h a w φ hr R fun e σ' a' w' φ' h1 h2 => hR e σ' a' w' φ' (hq _ _ h1) h2
theorem AWpB.seq {x y : Code} {Q : Post} (K : St → Prop) (h : AWpB B G N x σ (Post.then K Q)) (h2 : ∀ σ, K σ → AWpB B G N y σ Q) : AWpB B G N (.seq x y) σ Q := by
  intro a w φ hr Q' hq
  refine wpIn_seq (h a w φ hr _ fun e σ' a' w' φ' h1 hr' => ?_)
  cases e with
  | normal => exact h2 _ h1 a' w' φ' hr' Q' hq
  | _ => exact hq _ _ _ _ _ h1 hr'
theorem AWpB.cond {c : Operand} {x y : Code} {Q : Post} {b : Bool} (hc : σ.eval c = .d (.bool b)) (h1 : b = true → AWpB B G N x σ Q) (h2 : b = false → AWpB B G N y σ Q) : AWpB B G N (.cond c x y) σ Q := by
  intro a w φ hr Q' hq
  have hv := hr.eval c
  rw [hc] at hv
  exact wpIn_cond_split (repV_bool hv) (fun h => h1 h a w φ hr Q' hq) (fun h => h2 h a w φ hr Q' hq)
theorem AWpB.block {id : Nat} {c : Code} {Q : Post} (h : AWpB B G N c σ (Post.inBlock id Q)) : AWpB B G N (.block id c) σ Q := by
  intro a w φ hr Q' hq
  refine wpIn_block (h a w φ hr _ fun e σ' a' w' φ' h1 h2 => ?_)
  cases e with
  | exit j =>
    simp only [Post.inBlock] at h1
    simp only [Exit.inBlock]
    split
    · rename_i h; rw [if_pos h] at h1; exact hq _ _ _ _ _ h1 h2
    · rename_i h; rw [if_neg h] at h1; exact hq _ _ _ _ _ h1 h2
  | _ => exact hq _ _ _ _ _ h1 h2
theorem AWpB.loopI {ι : Type} {c : Code} {Q : Post} (T : ι → St) (p : ι → Prop) (μ : ι → Nat) (i0 : ι) (h0 : p i0) (hs : Sub G N σ (T i0))
    (h : ∀ i, p i → AWpB B G N c (T i) (Post.then (fun σ' => ∃ i', p i' ∧ μ i' < μ i ∧ Sub G N σ' (T i')) Q)) : AWpB B G N (.loop c) σ Q := by
  intro a w φ hr Q' hq
  classical
  let ex : Act → World → Nat → Prop := fun a w m => ∃ i φ, p i ∧ μ i = m ∧ Rep G B N (T i) a w φ
  let J : Act → World → Prop := fun a w => ∃ m, ex a w m
  let ν : Act → World → Nat := fun a w => if h : ∃ m, ex a w m then Classical.choose (exists_least h) else 0
  obtain ⟨φ0, hr0⟩ := hs P B a w φ hr
  refine wpIn_loop J ν ⟨_, i0, φ0, h0, rfl, hr0⟩ fun a w hJ => ?_
  have hν : ν a w = Classical.choose (exists_least hJ) := dif_pos hJ
  obtain ⟨⟨i, φ1, h1, hm, h2⟩, hmin⟩ := Classical.choose_spec (exists_least hJ)
  refine h i h1 a w φ1 h2 _ fun e σ' a' w' φ' h3 h4 => ?_
  cases e with
  | normal =>
    obtain ⟨i', g1, g2, g3⟩ := h3
    obtain ⟨φ2, h5⟩ := g3 P B a' w' φ' h4
    have hex' : ∃ m, ex a' w' m := ⟨_, i', φ2, g1, rfl, h5⟩
    refine ⟨hex', ?_⟩
    show ν a' w' < ν a w
    rw [hν, show ν a' w' = Classical.choose (exists_least hex') from dif_pos hex', ← hm]
    exact Nat.lt_of_le_of_lt ((Classical.choose_spec (exists_least hex')).2 _ ⟨i', φ2, g1, rfl, h5⟩) g2
  | _ => exact hq _ _ _ _ _ h3 h4
theorem AWpB.reg {id : Nat} {l : List Oper} {Q : Post} (h : AOpsB B G N l.toArray l σ (Q .normal)) : AWpB B G N (.region id l.toArray false) σ Q :=
  fun a w φ hr Q' hq => wpIn_region (wpOps_list (by simpa using h a w φ hr Q' (fun σ' a' w' φ' h1 h2 => hq .normal σ' a' w' φ' h1 h2)))
theorem AOpsB.of {l : List Oper} {Q : St → Prop} (h : AOps P G B.ro N ops l σ Q) : AOpsB B G N ops l σ Q := fun a w φ hr Q' hq => h B rfl a w φ hr Q' hq
theorem AOpsB.pre {l : List Oper} {Q : St → Prop} (n : Nat) (K : St → Prop) (h1 : AOps P G B.ro N ops (l.take n) σ K) (h2 : ∀ τ, K τ → AOpsB B G N ops (l.drop n) τ Q) : AOpsB B G N ops l σ Q := by
  have key : ∀ (l m : List Oper) (Q' : Exit → Act → World → Prop) (a : Act) (w : World), wpL (Fw B.ro) 0 P ops (fun e a w => match e with | .normal => wpL (Fw B.ro) 0 P ops Q' m a w | e => Q' e a w) l a w → wpL (Fw B.ro) 0 P ops Q' (l ++ m) a w := by
    intro l
    induction l with
    | nil => intro m Q' a w h; exact h
    | cons o l ih =>
      intro m Q' a w h
      simp only [List.cons_append, wpL] at h ⊢
      split at h
      · rename_i hw
        rw [if_pos hw]
        exact Oper.wpIn_off (fun a w h => ih m Q' a w h) (fun e a w hne h => by
          cases e <;> first | exact absurd rfl hne | exact h) h
      · rename_i hw
        rw [if_neg hw]
        exact ⟨h.1, ih m Q' _ w h.2⟩
  intro a w φ hr Q' hq
  rw [← List.take_append_drop n l]
  exact key _ _ _ _ _ (h1 B rfl a w φ hr _ fun σ' a' w' φ' hs hr' => h2 σ' hs a' w' φ' hr' Q' hq)
theorem AOpsB.last {o : Oper} {Q : St → Prop} (hg : o.guard = none) (h : OpTB B G N o σ Q) : AOpsB B G N ops [o] σ Q := by
  intro a w φ hr Q' hq
  simp only [wpL, Region.wanted, hg, if_true]
  exact h a w φ hr _ _ fun σ' a' w' φ' h1 h2 => hq σ' a' w' φ' h1 h2
def wipe : PV → PV
  | .d y => if noRef y = true then .d y else .any
  | .val v => .val v
  | _ => .any
theorem RepV.wipe {w w' : World} {X X' : Nat → Nat → Prop} {φ φ' : Nm} {H H' : Heap} {v : Value} {p : PV} (h : RepV w X φ H v p) : RepV w' X' φ' H' v (Pv.wipe p) := by
  cases h <;> simp only [Pv.wipe] <;> first | exact .any _ | skip
  · split
    · rename_i hd hn; exact .d (hd.noRef hn)
    · exact .any _
  · rename_i hf; exact .val hf
theorem Dfr.empty {m : Nat → Prop} {w : World} {X : Nat → Nat → Prop} {φ : Nm} {H : Heap} {ds : List Deferred} (h : Dfr m w X φ H ds []) (hm : ∀ D, ¬ m D) : ds = [] := by
  cases h with
  | nil => rfl
  | mark h => exact absurd h (hm _)
def flatPV : PV → Bool
  | .any | .d (.agg _) | .b (.agg _) | .agg _ | .tuple _ => false
  | _ => true
theorem flat_of_flatPV {w : World} {X : Nat → Nat → Prop} {φ : Nm} {H : Heap} {v : Value} {p : PV} (h : RepV w X φ H v p) (hp : flatPV p = true) : flat v = true :=
  flat_of_repV h (fun e => by subst e; cases hp) (fun _ e => by subst e; cases hp) (fun _ e => by subst e; cases hp) (fun _ e => by subst e; cases hp) (fun _ e => by subst e; cases hp)
theorem eget_vals (val : Nat → Value) : ∀ (ks : List Nat) (t : Nat), eget (ks.map fun k => (k, PV.val (val k))) t = if t ∈ ks then .val (val t) else .any
  | [], t => rfl
  | k :: ks, t => by
    simp only [List.map_cons, eget, List.mem_cons]
    by_cases h : k = t
    · subst h; simp
    · rw [if_neg h, eget_vals val ks t]; simp [Ne.symm h]
theorem eget_kenv (e : List (Nat × PV)) : ∀ (ks : List Nat) (t : Nat), eget (kenv ks e) t = if t ∈ ks then eget e t else .any
  | [], t => rfl
  | k :: ks, t => by
    simp only [kenv, eget, List.mem_cons]
    by_cases h : k = t
    · subst h; simp
    · rw [if_neg h, eget_kenv e ks t]; simp [Ne.symm h]
theorem AWp.apart {ro : Option Nat} {c : Code} {Q : Post} {r l0 : Nat} {x m : PD} {h : List PD} {d0 : Bool} (ks : List Nat) (E : Exit → Prop) (hg : σ.gh = some (l0, [], m :: x :: h, d0)) (hdf : σ.dfr = []) (hr0 : eget σ.env r = .val (hdr h)) (hrk : r ∉ ks)
    (hks : ks.all (fun k => flatPV (eget σ.env k)) = true)
    (hL : ∀ (B : Base P) (val : Nat → Value), B.ro = ro → (∀ b kk, b < B.w0.heap.size → ¬ B.X b kk → B.o0 b) →
      AWpB B [] N c ⟨(r, .d x) :: ks.map (fun k => (k, .val (val k))), [], [], some (0, [], [.nilptr], true)⟩ (fun e τ => E e ∧ τ.dfr = [] ∧ τ.gh = some (0, [], [.nilptr], true) ∧ ∀ k ∈ ks, eget τ.env k = .val (val k)))
    (hQ : ∀ e, E e → Q e ⟨kenv ks σ.env, σ.heap, [], some (l0, [], [m], d0)⟩) : AWp P G ro N c σ Q := by
  intro B hro a w φ hr Q' hq
  obtain ⟨hfr, hj⟩ := hr.part hg
  have hd0 : a.defers ++ B.held = [] := by
    have := hr.dfr
    rw [hdf] at this
    exact this.empty fun D hD => by have := hD.1; rw [hg] at this; cases this
  let B' : Base P := { w0 := w, X := fun b _ => b < w.heap.size ∧ ¬ φ.T b, hX := fun _ _ h => h.1, o0 := φ.T, φ0 := fun _ => none, z0 := fun _ => 0, ro := ro, held := B.held, hheld := fun h => B.hheld (hro.trans h), J := fun _ _ _ _ => True, stab := fun _ _ _ _ _ _ _ _ _ _ _ _ _ => trivial, fr := true, y := none, yok := fun _ _ h => by cases h }
  let val : Nat → Value := fun k => a.tmps.getD k undef
  have hrep : Rep [] B' N ⟨(r, .d x) :: ks.map (fun k => (k, .val (val k))), [], [], some (0, [], [.nilptr], true)⟩ a w Nm.no := by
    refine ⟨hr.size, fun t => ?_, ⟨fun r x b h => by simp [hget] at h, fun r x h => by simp [hget] at h, fun r s x y b h => by simp [hget] at h, fun b h => h.elim⟩, .refl _ _, fun r x b h => by simp [hget] at h, fun r x h => by simp [hget] at h, fun r x b h => by simp [hget] at h, fun g x hm => by simp at hm, fun b h => h.elim,
      .inr ⟨rfl, rfl, .nilptr, [], rfl, fun b h => h.elim, fun x h e => by cases e⟩, ?_⟩
    · simp only [eget]
      split
      · rename_i ht; subst ht
        have hv := hr.env r
        rw [hr0] at hv
        rw [repV_val hv]
        exact .d ((hj.2 x h rfl).mono (fun b kk hb => ⟨(hj.1 b hb).1, fun hX => hX.2 hb, no_own b⟩) (fun _ _ _ => rfl))
      · rw [eget_vals]
        split
        · rename_i ht
          exact .val (flat_of_flatPV (hr.env t) (List.all_eq_true.1 hks t ht))
        · exact .any _
    · show Dfr _ _ _ _ _ (a.defers ++ B.held) []
      rw [hd0]; exact .nil
  have hrun := hL B' val rfl (fun b kk hb hX => Classical.byContradiction fun hn => hX ⟨hb, hn⟩) a w Nm.no hrep Q' (fun e τ a' w' φ' ⟨hE, hτd, hτg, hval⟩ hr' => ?_)
  · have : B'.ro = ro := rfl
    rw [this] at hrun
    exact hrun
  have hk : Keeps φ.T w w' := hr'.keeps
  have hsz := hk.size
  have hown : ∀ b, own φ σ.heap b → b < w.heap.size := fun _ => hr.heap.own_lt
  have hrb : ∀ r x b, hget σ.heap r = some x → φ r = some b → w'.heap[b]? = w.heap[b]? := fun r x b g1 g2 => hk.block b (hr.heap.lt g1 g2) (fun hT => (hr.heap.far b hT).2.2 ⟨r, x, g1, g2⟩)
  have hext : Ext w B.X φ σ.heap w' φ σ.heap := ⟨fun r x h => ⟨x, h, rfl, fun _ => rfl, rfl⟩, fun b kk h => ⟨Nat.lt_of_lt_of_le h.1 hsz, h.2⟩, fun b kk h => ⟨Nat.lt_of_lt_of_le h.1 hsz, h.2⟩,
    fun b kk h => hk.block b h.1 (fun hT => h.2 (.inr hT)), fun r x b g1 g2 c e f hh => ⟨c, e, f, (hrb r x b g1 g2) ▸ hh, rfl⟩⟩
  refine hq e _ a' w' φ (hQ e hE) ?_
  refine ⟨hr'.size, fun t => ?_, ⟨fun r x b g1 g2 => (hr.heap.rows r x b g1 g2).ext hext (hrb r x b g1 g2), hr.heap.void, hr.heap.inj, fun b hb => ⟨Nat.lt_of_lt_of_le (hr.heap.far b hb).1 hsz, (hr.heap.far b hb).2⟩⟩,
    ⟨hk.os.trans hr.keeps.os, hk.tape.trans hr.keeps.tape, hk.output.trans hr.keeps.output, Nat.le_trans hr.keeps.size hsz, fun b hb ho => ?_⟩, hr.new, hr.pins, fun r x b g1 g2 g3 => (csz_of (hrb r x b g1 g3)).trans (hr.psz r x b g1 g2 g3), hr.glob.ext hext (fun n z hm => ?_), hr.tnew, ?_, ?_⟩
  · rw [eget_kenv]
    split
    · rename_i ht
      have hv := hr'.env t
      rw [hval t ht] at hv
      rw [repV_val hv]
      exact (hr.env t).ext hext
    · exact .any _
  · refine (hk.block b (Nat.lt_of_lt_of_le hb hr.keeps.size) (fun hT => ?_)).trans (hr.keeps.block b hb ho)
    rcases hr.tnew b hT with h | h
    · exact ho h
    · omega
  · obtain ⟨c, e, f, v, g1, g2, _⟩ := hr.glob n z hm
    exact g2
  · exact .inr ⟨hfr, rfl, m, [], rfl, fun b hb => ⟨Nat.lt_of_lt_of_le (hj.1 b hb).1 hsz, (hj.1 b hb).2⟩, fun z h e => by cases e⟩
  · have : a'.defers ++ B.held = [] := by
      have := hr'.dfr
      rw [hτd] at this
      exact this.empty fun D hD => by have := hD.1; rw [hτg] at this; cases this
    show Dfr _ _ _ _ _ (a'.defers ++ B.held) []
    rw [this]; exact .nil
end
end Go.Pv

namespace Go.Pv
section
variable {P : Program} {B : Base P} {G : List (Nat × PD)} {ro : Option Nat} {N : Nat} {σ τ : St} {ops : Array Oper} {w : World} {φ : Nm}
def dOk (q : PV) : PV → Prop
  | .any => True
  | .d x => q = .d x ∨ q = .b x
  | _ => False
def envD (e : List (Nat × PV)) : List (Nat × PV) → Prop
  | [] => True
  | (t, p) :: l => dOk (eget e t) p ∧ envD e l
def bOk (q : PV) : PV → Prop
  | .any => True
  | .b x => q = .d x
  | .d x => q = .d x ∧ noRef x = true
  | _ => False
def envB (e : List (Nat × PV)) : List (Nat × PV) → Prop
  | [] => True
  | (t, p) :: l => bOk (eget e t) p ∧ envB e l
theorem envD_get {e : List (Nat × PV)} : ∀ {l : List (Nat × PV)}, envD e l → ∀ t, dOk (eget e t) (eget l t)
  | [], _, t => trivial
  | (s, p) :: l, h, t => by
    simp only [eget]
    split
    · rename_i hs; subst hs; exact h.1
    · exact envD_get h.2 t
theorem envB_get {e : List (Nat × PV)} : ∀ {l : List (Nat × PV)}, envB e l → ∀ t, bOk (eget e t) (eget l t)
  | [], _, t => trivial
  | (s, p) :: l, h, t => by
    simp only [eget]
    split
    · rename_i hs; subst hs; exact h.1
    · exact envB_get h.2 t
theorem AOps.bare {l : List Oper} {Q : St → Prop} (hG : noRefG G) (env1 env2 : List (Nat × PV)) (hh : σ.heap = []) (hd : σ.dfr = []) (hg : σ.gh = none) (he : envD σ.env env1)
    (h : AOps P G ro N ops l ⟨env1, [], [], none⟩ (fun τ => τ.dfr = [] ∧ τ.gh = none ∧ envB τ.env env2)) (hQ : Q ⟨env2, [], [], none⟩) : AOps P G ro N ops l σ Q := by
  intro B hro a w φ hr Q' hq
  have hT : ∀ b, ¬ φ.T b := by have := hr.inv; rw [hg] at this; exact this
  have hno : ∀ b, ¬ own φ [] b := fun b h => h.elim (row_nil b) (hT b)
  have hrep : Rep G B.bare N ⟨env1, [], [], none⟩ a w φ := by
    refine ⟨hr.size, fun t => ?_, ⟨fun r x b h => by simp [hget] at h, fun r x h => by simp [hget] at h, fun r s x y b h => by simp [hget] at h, fun b h => absurd h (hT b)⟩, hr.keeps, fun r x b h => by simp [hget] at h, fun r x h => by simp [hget] at h, fun r x b h => by simp [hget] at h, fun g x hm => ?_, hr.tnew, hT, ?_⟩
    · have h1 := envD_get he t
      have h2 := hr.env t
      generalize eget env1 t = p at h1 ⊢
      cases p <;> simp only [dOk] at h1
      · exact .any _
      · rcases h1 with h1 | h1
        · rw [h1] at h2; exact .d ((repV_d h2).mono (fun b k hb => ⟨hb.1, fun h => h, hno b⟩) (fun _ _ _ => rfl))
        · rw [h1] at h2; exact .d ((repV_b h2).mono (fun b k hb => ⟨hb.1, fun h => h, hno b⟩) (fun _ _ _ => rfl))
    · obtain ⟨cs, e, f, v, h5, h6, h7, h8, h9⟩ := hr.glob g x hm
      exact ⟨cs, e, f, v, h5, hno g, h7.mono (fun b k hb => ⟨hb.1, fun h => h, hno b⟩) (fun _ _ _ => rfl), h8, h9.1, fun h => h⟩
    · have := hr.dfr
      rw [hd] at this
      exact this.marks (fun D hD => ⟨rfl, hD.2⟩) (fun D hD _ => ⟨⟨hD.1, fun h => h, hno D⟩, rfl⟩)
  refine h B.bare hro a w φ hrep Q' fun τ a' w' φ' ⟨h1, h2, h3⟩ hr' => ?_
  have hT' : ∀ b, ¬ φ'.T b := by have := hr'.inv; rw [h2] at this; exact this
  have hno' : ∀ b, ¬ own φ' [] b := fun b h => h.elim (row_nil b) (hT' b)
  refine hq _ _ _ φ' hQ ⟨hr'.size, fun t => ?_, ⟨fun r x b h => by simp [hget] at h, fun r x h => by simp [hget] at h, fun r s x y b h => by simp [hget] at h, fun b h => absurd h (hT' b)⟩, hr'.keeps, fun r x b h => by simp [hget] at h, fun r x h => by simp [hget] at h, fun r x b h => by simp [hget] at h, fun g x hm => ?_, fun b h => absurd h (hT' b), hT', ?_⟩
  · have h1 := envB_get h3 t
    have h2 := hr'.env t
    generalize eget env2 t = p at h1 ⊢
    cases p <;> simp only [bOk] at h1
    · exact .any _
    · rw [h1.1] at h2; exact .d ((repV_d h2).noRef h1.2)
    · rw [h1] at h2; exact .b ((repV_d h2).mono (fun b k hb => ⟨hb.1, hno' b⟩) (fun _ _ _ => rfl))
  · obtain ⟨cs, e, f, v, h5, h6, h7, h8, h9⟩ := hr'.glob g x hm
    obtain ⟨cs', e', f', v', k5, k6, k7, k8, k9⟩ := hr.glob g x hm
    exact ⟨cs, e, f, v, h5, hno' g, h7.noRef (hG g x hm), h8, h9.1, k9.2⟩
  · have := hr'.dfr
    rw [h1] at this
    have h4 : ∀ D kk, B.w0.heap.size ≤ D → ¬ B.X D kk := fun D kk hD hX => absurd (B.hX D _ hX) (Nat.not_lt.2 hD)
    show Dfr _ w' B.X φ' [] (a'.defers ++ B.held) []
    have key : ∀ {ds : List Deferred} {ps : List PV}, Dfr (fun D => τ.gh = none ∧ B.bare.ro = none ∧ B.bare.w0.heap.size ≤ D) w' B.bare.X φ' τ.heap ds ps → ps = [] → Dfr (fun D => (none : Gh) = none ∧ B.ro = none ∧ B.w0.heap.size ≤ D) w' B.X φ' [] ds [] := by
      intro ds ps hd
      induction hd with
      | nil => intro _; exact .nil
      | fn => intro h; cases h
      | mark g0 g1 g2 g3 _ ih => intro h; exact .mark ⟨rfl, g0.2⟩ ⟨g1.1, h4 _ 0 g0.2.2, hno' _⟩ g2 g3 (ih h)
    exact key this rfl
def Base.bare0 (B : Base P) : Base P := { B.bare with o0 := fun _ => False }
theorem RowFn.bor (hG : noRefG G) {f : FuncId} {args args' : List PV} {e k : Nat} {l : List PD} (h : RowFn P G f args e k l) (hn : ∀ x ∈ l, noRef x = true) (hk : 1 ≤ k) (hd : dAll args = true) (hb : borL args args') : RowFn P G f args' e k l := by
  intro B φ vs h0 h1 h2 h3
  obtain ⟨hl, hg⟩ := borL_get hb
  have hT : ∀ b, ¬ φ.T b := h3.inv
  have h3' : Sit G B.bare0 B.w0 φ [] none := by
    have hs := Sit.bare (H := []) h3
    exact ⟨hs.heap, .refl _ _, fun r x b h => by simp [hget] at h, hs.pins, hs.psz, hs.glob, fun b h => absurd h (hT b), hs.inv⟩
  refine (h B.bare0 φ vs h0 (h1.trans hl.symm) (fun i hi => ?_) h3').mono ?_
  · have h4 := h2 i (hl ▸ hi)
    obtain ⟨z, hz⟩ := dAll_get hd i hi
    rw [hz]
    rcases hg i hi (hl ▸ hi) with e | ⟨y, e1, e2⟩
    · rw [e, hz] at h4
      exact .d ((repV_d h4).mono (fun b k hb => ⟨hb.1, fun h => h, hb.2.2⟩) (fun _ _ _ => rfl))
    · rw [hz] at e1
      simp only [PV.d.injEq] at e1; subst e1
      rw [e2] at h4
      exact .d ((repV_b h4).mono (fun b k hb => ⟨hb.1, fun h => h, hb.2⟩) (fun _ _ _ => rfl))
  · rintro e' w' ⟨v, p, H', g', φ', he, ⟨rfl, rfl⟩, hv, hs⟩
    -- the row is new
    have hnew : ∀ b, φ' 1000 = some b → B.w0.heap.size ≤ b := fun b hb => (hs.new 1000 { e, k, els := dl l } b (by simp [hget]) hb).resolve_left fun h => h
    have hX : ∀ b, φ' 1000 = some b → ∀ kk, ¬ B.X b kk := fun b hb kk h => absurd (B.hX b _ h) (Nat.not_lt.2 (hnew b hb))
    let φ2 : Nm := ⟨φ'.f, fun _ => False⟩
    have hrow : ∀ r x b, hget [(1000, ({ e, k, els := dl l } : Row))] r = some x → φ' r = some b → r = 1000 ∧ x = { e, k, els := dl l } := fun r x b h1 h2 => by
      simp only [hget] at h1
      split at h1
      · rename_i hr; subst hr; exact ⟨rfl, by simpa using h1.symm⟩
      · cases h1
    have helt : ∀ {X X' : Nat → Nat → Prop} {φ1 φ3 : Nm} {H H' : Heap} {v : Value} (i : Nat) (hi : i < (dl l).length), RepV w' X φ1 H v (dl l)[i] → RepV w' X' φ3 H' v (dl l)[i] := by
      intro X X' φ1 φ3 H H' v i hi hv
      have hil : i < l.length := by simpa [dl] using hi
      have e1 : (dl l)[i] = .d l[i] := by simp [dl]
      rw [e1] at hv ⊢
      exact .d ((repV_d hv).noRef (hn _ (List.getElem_mem hil)))
    refine ⟨v, _, _, none, φ2, he, ⟨rfl, rfl⟩, ?_, ⟨⟨fun r x b h1 h2 => ?_, hs.heap.void, hs.heap.inj, fun b h => h.elim⟩, ?_, fun r x b h1 h2 => .inr ?_, fun r x h1 h2 => ?_, fun r x b h1 h2 h3 => ?_, fun g x hm => ?_, fun b h => h.elim, fun b h => h⟩⟩
    · have key : ∀ n, RepV w' B.bare0.X φ' [(1000, { e, k, els := dl l })] v (.slc 1000 0 n) → RepV w' B.X φ2 [(1000, { e, k, els := dl l })] v (.slc 1000 0 n) := fun n hv => by
        cases hv with
        | slc g1 g2 g3 g4 g5 g6 g7 => exact .slc g1 g2 g3 g4 g5 g6 g7
        | slc0 g1 g2 g3 g4 => exact .slc0 g1 g2 g3 g4
      exact key _ hv
    · obtain ⟨rfl, rfl⟩ := hrow r x b h1 h2
      exact (hs.heap.rows 1000 _ b h1 h2).turn rfl rfl rfl (fun _ _ h => h) (hX b h2) (fun i hi _ v hv => helt i hi hv) fun _ h => h
    · exact ⟨hs.keeps.os, hs.keeps.tape, hs.keeps.output, hs.keeps.size, fun b hb _ => hs.keeps.block b hb fun h => h⟩
    · obtain ⟨rfl, rfl⟩ := hrow r x b h1 h2; exact hnew b h2
    · simp only [hget] at h1
      split at h1
      · rename_i hr; subst hr; simp [pinned] at h2
      · cases h1
    · simp only [hget] at h1
      split at h1
      · rename_i hr; subst hr; simp [pinned] at h2
      · cases h1
    · obtain ⟨cs, e', f', v, h5, h6, h7, h8, h9⟩ := hs.glob g x hm
      obtain ⟨cs', e'', f'', v', k5, k6, k7, k8, k9⟩ := h3.glob g x hm
      refine ⟨cs, e', f', v, h5, fun ho => h6 (ho.elim .inl fun h => h.elim), h7.noRef (hG g x hm), h8, h9.1, k9.2⟩
end
end Go.Pv

namespace Go.Pv
section
variable {P : Program} {B : Base P} {G : List (Nat × PD)} {ro : Option Nat} {N : Nat} {ops : Array Oper} {σ τ σ' : St} {o : Oper} {rest : List Oper}
end
inductive All2 {α β : Type} (p : α → β → Prop) : List α → List β → Prop
  | nil : All2 p [] []
  | cons {a : α} {b : β} {l : List α} {m : List β} (h : p a b) (t : All2 p l m) : All2 p (a :: l) (b :: m)
end Go.Pv

namespace Go.Pv
def edrop (dr : List Nat) : List (Nat × PV) → List (Nat × PV)
  | [] => []
  | (t, v) :: l => if dr.contains t then edrop dr l else (t, v) :: edrop dr l
theorem edrop_get (dr : List Nat) (t : Nat) : ∀ l, eget (edrop dr l) t = if dr.contains t then .any else eget l t
  | [] => by simp [edrop, eget]
  | (s, v) :: l => by
    simp only [edrop]
    by_cases hs : dr.contains s = true
    · rw [if_pos hs, edrop_get dr t l]
      by_cases ht : dr.contains t = true
      · rw [if_pos ht, if_pos ht]
      · rw [if_neg ht, if_neg ht]
        simp only [eget]
        rw [if_neg (fun e => ht (by rw [← e]; exact hs))]
    · rw [if_neg hs]
      simp only [eget]
      rw [edrop_get dr t l]
      by_cases hst : s = t
      · subst hst; rw [if_pos rfl, if_pos rfl, if_neg hs]
      · rw [if_neg hst, if_neg hst]
section
variable {P : Program} {G : List (Nat × PD)} {ro : Option Nat} {B : Base P} {N : Nat} {ops : Array Oper} {σ τ σ' : St} {a : Act} {w w' : World} {φ φ' : Nm} {H H' H2 : Heap} {g ρ : Nat → Nat} {gs : List Nat} {o : Oper} {rest : List Oper} {K : St → Prop}
theorem Rep.edrop (h : Rep G B N σ a w φ) (dr : List Nat) : Rep G B N { σ with env := edrop dr σ.env } a w φ := by
  have he : ∀ t, RepV w B.X φ σ.heap (a.tmps.getD t undef) (eget (Go.Pv.edrop dr σ.env) t) := fun t => by
    rw [edrop_get]
    split
    · exact .any _
    · exact h.env t
  exact { h with env := he }
theorem OpT.callU2 (dr : List Nat) {c : Call} {f : FuncId} {xo : Operand} {caps args : List PV} {Post : PV → Heap → Prop} (ho : o.op = .call c) (hc : c.callee = .value xo) (hx : calleeV (σ.eval xo) = some (f, caps)) (hcal : callable P f = true)
    (hf : Fn P G f args H Post) (hh : HandU { σ with env := edrop dr σ.env } H g gs) (ha : handsOk σ.heap H g (evalL σ c.args.toList ++ caps) args) (hd : dstOk N o.dst)
    (hK : ∀ p H', Post p H' → ∃ ρ, BackU { σ with env := edrop dr σ.env } H H' g ρ gs ∧ clean p ∧ refsIn H' p ∧ K (({ σ with env := edrop dr σ.env, heap := hmerge ρ H' (hdrop gs σ.heap) } : St).put o.dst (p.ren ρ))) : OpT P G ro N o σ K := by
  intro B hro a w φ hr0 next Q hn
  obtain ⟨vs, hv1, hv2, hv3⟩ := calleeV_ok hx (hr0.eval xo)
  obtain ⟨h1, h2⟩ := handsOk_get ha
  obtain ⟨h3, h4⟩ := args_caps hr0 (ops := c.args.toList) hv2 hv3
  have hr := hr0.edrop dr
  have hcall := hf (hr.bc H g none) (handNm φ H g none) (c.args.toList.map a.eval ++ vs.toList) rfl (h3.trans h1) (fun i hi => handOk_ok hr hh.h0 (h4 i (h1 ▸ hi)) (h2 i (h1 ▸ hi) hi)) (hr.hand hh.h0 (.inl rfl))
  have hrun : (o.semAt ro a.eval).run P w = .ok (.enter f (c.args.toList.map a.eval ++ vs.toList).toArray) w := by
    rw [Oper.semAt_eq _ _ _ (fun c hc => by rw [ho] at hc; cases hc)]
    have e1 : (c.args.toList.map a.eval ++ vs.toList).toArray = c.args.map a.eval ++ vs := by
      apply Array.toList_inj.1; simp
    have e2 : (#[] ++ c.args.map a.eval ++ vs : Array Value) = c.args.map a.eval ++ vs := by simp
    simp only [execOp, ho, resolve, hc, hv1, Deferred.ofValue, Sem.run_bind, Sem.run_pure, Result.andThen_ok, invoke, e1, e2]
    exact run_callFunc hcal _ w
  refine ⟨fun _ _ => trivial, ?_⟩
  show o.uponIn (Fw ro) 0 P a next Q ((o.semAt ro a.eval).run P w)
  rw [hrun]
  refine ⟨fun h => (by cases h), ?_⟩
  refine CallsIn.mono (R := fun e w' => ∃ v p H' g' φ', e = .returned v ∧ Post p H' ∧ RepV w' (hr.bc H g none).X φ' H' v p ∧ Sit G (hr.bc H g none) w' φ' H' g') hcall ?_
  rintro e w' ⟨v, p, H', g', φ', rfl, hP, h5, h6⟩
  obtain ⟨ρ, hb, hcl, href, hKp⟩ := hK p H' hP
  have cm : CameU hr H H' (hmerge ρ H' (hdrop gs σ.heap)) g ρ gs g' w' φ' := ⟨hh, hb, hb.merged, h6⟩
  exact hn _ _ _ _ hKp (cm.rep.put hd (cm.val h5 hcl href))
theorem AWp.monoS {c : Code} {Q Q' : Post} (h : AWp P G ro N c σ Q) (hQ : ∀ e τ, Q e τ → ∃ τ', Sub G N τ τ' ∧ Q' e τ') : AWp P G ro N c σ Q' := by
  intro B hro a w φ hr R hR
  refine h B hro a w φ hr R fun e σ1 a1 w1 φ1 h1 h2 => ?_
  obtain ⟨τ', hs, hq⟩ := hQ e σ1 h1
  obtain ⟨φ2, h3⟩ := hs P B _ _ _ h2
  exact hR e τ' a1 w1 φ2 hq h3
end
end Go.Pv

namespace Go.Pv
mutual
theorem ren_fix {ρ : Nat → Nat} : ∀ p : PV, (∀ r ∈ rowsOf p, ρ r = r) → p.ren ρ = p
  | .func fn l, h => by simp only [PV.ren]; rw [renL_fix l fun r hr => h r (by simpa [rowsOf] using hr)]
  | .agg l, h => by simp only [PV.ren]; rw [renL_fix l fun r hr => h r (by simpa [rowsOf] using hr)]
  | .tuple l, h => by simp only [PV.ren]; rw [renL_fix l fun r hr => h r (by simpa [rowsOf] using hr)]
  | .ptr r _ _, h => by simp only [PV.ren]; rw [h r (by simp [rowsOf])]
  | .slc r _ _, h => by simp only [PV.ren]; rw [h r (by simp [rowsOf])]
  | .mp r, h => by simp only [PV.ren]; rw [h r (by simp [rowsOf])]
  | .any, _ | .d _, _ | .b _, _ | .dptr .., _ | .bptr .., _ | .glob _, _ | .val _, _ => by simp only [PV.ren]
theorem renL_fix {ρ : Nat → Nat} : ∀ l : List PV, (∀ r ∈ rowsOfL l, ρ r = r) → renL ρ l = l
  | [], _ => by simp only [renL]
  | p :: l, h => by simp only [renL]; rw [ren_fix p fun r hr => h r (by simp [rowsOfL, hr]), renL_fix l fun r hr => h r (by simp [rowsOfL, hr])]
end
theorem Row.ren_fix {ρ : Nat → Nat} (x : Row) (h : ∀ r ∈ rowsOfL x.els, ρ r = r) : x.ren ρ = x := by
  simp only [Row.ren, renL_fix _ h]
theorem hget_dynBH_case {M : List Block} [hM : BlksOk M] {l : Heap} (hl : lows l) {r : Nat} {x : Row} (h : hget (dynBH M l) r = some x) : (∃ (j c : Nat) (b : Block), c < 16 ∧ r = nm j c ∧ M[j]? = some b ∧ hget b c = some x) ∨ (r < 1000000 ∧ hget l r = some x) := by
  simp only [dynBH, hget_append] at h
  cases hg : hget (dynB 0 M) r with
  | some y =>
    rw [hg] at h; cases h
    obtain ⟨j, c, b, h1, _, h3, h4⟩ := hget_dynB_name hg
    rw [Nat.sub_zero] at h3
    have ho := hM.ok j b h3
    exact .inl ⟨j, c, b, ho.1 c _ h4, h1, h3, hget_first ho.2.1 h4⟩
  | none =>
    rw [hg] at h
    by_cases hr : r < 1000000
    · exact .inr ⟨hr, h⟩
    · rw [lows_get hl r (by omega)] at h; cases h
theorem blk_refs {M : List Block} [hM : BlksOk M] {j c : Nat} {b : Block} {x : Row} (h : M[j]? = some b) (hx : hget b c = some x) : ∀ s ∈ rowsOfL x.els, ∃ d, d < 16 ∧ s = nm j d ∧ (hget b d).isSome = true :=
  (hM.ok j b h).2.2 c x (hget_mem hx)
def focB (i : Nat) : List (Nat × Nat) → Nat → Nat
  | [], s => s
  | (q, c) :: ps, s => if s = nm i c then q else focB i ps s
def unfB (i : Nat) : List (Nat × Nat) → Nat → Nat
  | [], s => s
  | (q, c) :: ps, s => if s = q then nm i c else unfB i ps s
structure PsOk (ps : List (Nat × Nat)) : Prop where
  names : ∀ q c q' c', (q, c) ∈ ps → (q', c') ∈ ps → (q = q' ↔ c = c')
  big : ∀ q c, (q, c) ∈ ps → 1000 ≤ q ∧ q < 1000000 ∧ c < 16
theorem focB_at {i : Nat} : ∀ {ps : List (Nat × Nat)}, PsOk ps → ∀ {q c : Nat}, (q, c) ∈ ps → focB i ps (nm i c) = q
  | [], _, _, _, h => by simp at h
  | (q', c') :: ps, ho, q, c, h => by
    unfold focB
    by_cases hc : c = c'
    · subst hc
      rw [if_pos rfl]
      exact ((ho.names q' c q c (by simp) h).2 rfl)
    · have h1 := ho.big q c h
      have h2 := ho.big q' c' (by simp)
      rw [if_neg (fun e => hc (nm_inj h1.2.2 h2.2.2 e).2)]
      refine focB_at ⟨fun a b a' b' h h' => ho.names a b a' b' (by simp [h]) (by simp [h']), fun a b h => ho.big a b (by simp [h])⟩ ?_
      rcases List.mem_cons.1 h with h | h
      · cases h; exact absurd rfl hc
      · exact h
theorem focB_out {i s : Nat} : ∀ {ps : List (Nat × Nat)}, (∀ q c, (q, c) ∈ ps → s ≠ nm i c) → focB i ps s = s
  | [], _ => rfl
  | (q, c) :: ps, h => by
    unfold focB
    rw [if_neg (h q c (by simp))]
    exact focB_out fun q c hm => h q c (by simp [hm])
theorem focB_low {i s : Nat} {ps : List (Nat × Nat)} (h : s < 1000000) : focB i ps s = s := focB_out fun q c _ => by have := nm_high i c; omega
theorem unfB_at {i : Nat} : ∀ {ps : List (Nat × Nat)}, PsOk ps → ∀ {q c : Nat}, (q, c) ∈ ps → unfB i ps q = nm i c
  | [], _, _, _, h => by simp at h
  | (q', c') :: ps, ho, q, c, h => by
    unfold unfB
    by_cases hq : q = q'
    · subst hq
      rw [if_pos rfl]
      rw [((ho.names q c' q c (by simp) h).1 rfl)]
    · rw [if_neg hq]
      refine unfB_at ⟨fun a b a' b' h h' => ho.names a b a' b' (by simp [h]) (by simp [h']), fun a b h => ho.big a b (by simp [h])⟩ ?_
      rcases List.mem_cons.1 h with h | h
      · cases h; exact absurd rfl hq
      · exact h
theorem unfB_out {i s : Nat} : ∀ {ps : List (Nat × Nat)}, (∀ q c, (q, c) ∈ ps → s ≠ q) → unfB i ps s = s
  | [], _ => rfl
  | (q, c) :: ps, h => by
    unfold unfB
    rw [if_neg (h q c (by simp))]
    exact unfB_out fun q c hm => h q c (by simp [hm])
theorem setBlk_get {M : List Block} {i : Nat} {b : Block} (hi : i < M.length) (j : Nat) : (M.set i b)[j]? = if i = j then some b else M[j]? := by
  rw [List.getElem?_set]
  by_cases h : i = j
  · subst h; rw [if_pos rfl, if_pos hi, if_pos rfl]
  · rw [if_neg h, if_neg h]
instance {M : List Block} [hM : BlksOk M] (i : Nat) : BlksOk (M.set i []) := ⟨fun j b hb => by
  rw [List.getElem?_set] at hb
  split at hb
  · split at hb
    · cases hb; exact ⟨fun c y h => (by cases h), List.nodup_nil, fun c y h => (by cases h)⟩
    · cases hb
  · exact hM.ok j b hb⟩
theorem blksOk_set {M : List Block} [hM : BlksOk M] {i : Nat} {b : Block} (h : okBlk i b) : BlksOk (M.set i b) := ⟨fun j b' hb => by
  rw [List.getElem?_set] at hb
  split at hb
  · split at hb
    · cases hb; rename_i e _; subst e; exact h
    · cases hb
  · exact hM.ok j b' hb⟩
section
variable {G : List (Nat × PD)} {N : Nat} {σ : St}
theorem lows_app {a b : Heap} (ha : lows a) (hb : lows b) : lows (a ++ b) := by
  induction a with
  | nil => exact hb
  | cons x a ih => obtain ⟨s, y⟩ := x; exact ⟨ha.1, ih ha.2⟩
theorem lows_ren {ρ : Nat → Nat} : ∀ {l : Heap}, lows l → lows (renHeap ρ l)
  | [], h => h
  | (s, y) :: l, h => ⟨h.1, lows_ren h.2⟩
def outB (i : Nat) (ps : List (Nat × Nat)) (b : Block) : Heap := ps.filterMap fun p => (hget b p.2).map fun y => (p.1, y.ren (focB i ps))
theorem outB_get {i : Nat} {ps : List (Nat × Nat)} (ho : PsOk ps) {b : Block} (r : Nat) : hget (outB i ps b) r = (ps.find? fun p => p.1 == r).bind fun p => (hget b p.2).map fun y => y.ren (focB i ps) := by
  unfold outB
  generalize focB i ps = ρ
  induction ps with
  | nil => rfl
  | cons p ps ih =>
    obtain ⟨q, c⟩ := p
    have ho' : PsOk ps := ⟨fun a b a' b' h h' => ho.names a b a' b' (by simp [h]) (by simp [h']), fun a b h => ho.big a b (by simp [h])⟩
    have ih := ih ho'
    rw [List.filterMap_cons, List.find?_cons]
    by_cases hq : q = r
    · subst hq
      simp only [beq_self_eq_true, Option.bind_some]
      cases hb : hget b c with
      | some y => simp only [Option.map_some, hget, if_true]
      | none =>
        simp only [Option.map_none]
        rw [ih]
        cases hf : ps.find? (fun p => p.1 == q) with
        | none => rfl
        | some p' =>
          obtain ⟨q', c'⟩ := p'
          have h1 := List.find?_some hf
          have h2 := List.mem_of_find?_eq_some hf
          simp only [beq_iff_eq] at h1
          have : c = c' := (ho.names q c q' c' (by simp) (by simp [h2])).1 h1.symm
          subst this
          simp only [Option.bind_some, hb, Option.map_none]
    · have hne : ((q, c).1 == r) = false := by simpa using hq
      rw [hne]
      cases hb : hget b c with
      | some y => simp only [Option.map_some, hget]; rw [if_neg hq]; exact ih
      | none => simp only [Option.map_none]; exact ih
theorem Sub.focusB (i : Nat) (ps : List (Nat × Nat)) {M : List Block} [hM : BlksOk M] {b : Block} {l l' : Heap} {e' : List (Nat × PV)} (ho : PsOk ps) (hb : M[i]? = some b) (hcl : ∀ c y, (c, y) ∈ b → ∃ q, (q, c) ∈ ps) (hs : σ.heap = dynBH M l) (hlow : lows l) (hq : ∀ q c, (q, c) ∈ ps → hget l q = none)
    (hl : renHeap (focB i ps) l = l') (he : renEnv (focB i ps) σ.env = e') (hd : σ.dfr = []) : Sub G N σ ⟨e', dynBH (M.set i []) (outB i ps b ++ l'), σ.dfr, σ.gh⟩ := by
  subst hl he
  have hil : i < M.length := (List.getElem?_eq_some_iff.1 hb).1
  have hbo := hM.ok i b hb
  have hlb : lows (outB i ps b) := by
    unfold outB
    generalize focB i ps = ρ
    have : ∀ qs : List (Nat × Nat), (∀ q c, (q, c) ∈ qs → q < 1000000) → lows (qs.filterMap fun p => (hget b p.2).map fun y => (p.1, y.ren ρ)) := fun qs => by
      induction qs with
      | nil => exact fun _ => trivial
      | cons p qs ih =>
        intro h
        rw [List.filterMap_cons]
        have ih := ih fun q c hm => h q c (by simp [hm])
        cases hget b p.2 with
        | none => exact ih
        | some y => exact ⟨h p.1 p.2 (by simp), ih⟩
    exact this ps fun q c hm => (ho.big q c hm).2.1
  have hlow' : lows (outB i ps b ++ renHeap (focB i ps) l) := lows_app hlb (lows_ren hlow)
  have hcase := fun r x h => hget_dynBH_case (M := M) hlow (r := r) (x := x) (by rw [← hs]; exact h)
  have hfb : ∀ c x, hget b c = some x → ∃ q, (q, c) ∈ ps ∧ focB i ps (nm i c) = q := fun c x h => by
    obtain ⟨q, hq⟩ := hcl c x (hget_mem h)
    exact ⟨q, hq, focB_at ho hq⟩
  have hother : ∀ j c, i ≠ j → c < 16 → focB i ps (nm j c) = nm j c := fun j c hij hc => focB_out fun q d hm e => hij (nm_inj hc (ho.big q d hm).2.2 e).1.symm
  have hg1 : ∀ r, r < 1000000 → hget (dynBH (M.set i []) (outB i ps b ++ renHeap (focB i ps) l)) r = match (ps.find? fun p => p.1 == r).bind fun p => (hget b p.2).map fun y => y.ren (focB i ps) with | some y => some y | none => (hget l r).map (Row.ren (focB i ps)) := fun r hr => by
    rw [hget_dynBH hr, hget_append, outB_get ho, hget_renHeap]
    cases ((ps.find? fun p => p.1 == r).bind fun p => (hget b p.2).map fun y => y.ren (focB i ps)) <;> rfl
  have hg2 : ∀ q c x, (q, c) ∈ ps → hget b c = some x → hget (dynBH (M.set i []) (outB i ps b ++ renHeap (focB i ps) l)) q = some (x.ren (focB i ps)) := fun q c x hm hx => by
    rw [hg1 q (ho.big q c hm).2.1]
    cases hf : ps.find? (fun p => p.1 == q) with
    | none =>
      rw [List.find?_eq_none] at hf
      exact absurd (hf (q, c) hm) (by simp)
    | some p' =>
      obtain ⟨q', c'⟩ := p'
      have h1 := List.find?_some hf
      have h2 := List.mem_of_find?_eq_some hf
      simp only [beq_iff_eq] at h1
      have : c' = c := (ho.names q' c' q c h2 hm).1 h1
      subst this
      simp only [Option.bind_some, hx, Option.map_some]
  have hg3 : ∀ r x, r < 1000000 → hget l r = some x → hget (dynBH (M.set i []) (outB i ps b ++ renHeap (focB i ps) l)) r = some (x.ren (focB i ps)) := fun r x hr hx => by
    rw [hg1 r hr]
    cases hf : ps.find? (fun p => p.1 == r) with
    | none => simp only [Option.bind_none, hx, Option.map_some]
    | some p' =>
      obtain ⟨q', c'⟩ := p'
      have h1 := List.find?_some hf
      have h2 := List.mem_of_find?_eq_some hf
      simp only [beq_iff_eq] at h1
      subst h1
      have h3 := hq q' c' h2
      rw [hx] at h3; cases h3
  refine Sub.ren (ρ := focB i ps) ⟨fun t => eget_renEnv _ _ t, fun r y hy => ?_, fun s y hy => ?_, fun r s y z hy hz hrs => ?_, fun r y hy hr => ?_, fun r y hy hr => ?_, by rw [hd]; rfl, rfl⟩
  · rcases hcase r y hy with ⟨j, c, b', hc, rfl, h2, h3⟩ | ⟨h1, h2⟩
    · by_cases hij : i = j
      · subst hij
        rw [hb] at h2; cases h2
        obtain ⟨q, hm, hf⟩ := hfb c y h3
        rw [hf]; exact hg2 q c y hm h3
      · have hfix : y.ren (focB i ps) = y := Row.ren_fix y fun s hs => by
          obtain ⟨d, hd, rfl, _⟩ := blk_refs h2 h3 s hs
          exact hother j d hij hd
        rw [hother j c hij hc, hfix, hget_dynBH_nm hc BlksOk.okB hlow', setBlk_get hil, if_neg hij, h2]
        exact h3
    · rw [focB_low h1]; exact hg3 r y h1 h2
  · rcases hget_dynBH_case hlow' hy with ⟨j, c, b', hc, rfl, h2, h3⟩ | ⟨h1, h2⟩
    · rw [setBlk_get hil] at h2
      split at h2
      · cases h2; simp [hget] at h3
      · rename_i hij
        exact ⟨nm j c, y, by rw [hs, hget_dynBH_nm hc BlksOk.okB hlow, h2]; exact h3, (hother j c hij hc).symm⟩
    · rw [hget_append, outB_get ho, hget_renHeap] at h2
      cases hf : ps.find? (fun p => p.1 == s) with
      | none =>
        rw [hf] at h2
        simp only [Option.bind_none] at h2
        obtain ⟨x, hx, _⟩ := Option.map_eq_some_iff.1 h2
        exact ⟨s, x, by rw [hs, hget_dynBH h1]; exact hx, (focB_low h1).symm⟩
      | some p' =>
        obtain ⟨q', c'⟩ := p'
        have e1 := List.find?_some hf
        have e2 := List.mem_of_find?_eq_some hf
        simp only [beq_iff_eq] at e1
        subst e1
        rw [hf] at h2
        simp only [Option.bind_some] at h2
        cases hx : hget b c' with
        | some x => exact ⟨nm i c', x, by rw [hs, hget_dynBH_nm (ho.big q' c' e2).2.2 BlksOk.okB hlow, hb]; exact hx, (focB_at ho e2).symm⟩
        | none =>
          rw [hx] at h2
          simp only [Option.map_none, hq q' c' e2] at h2
          cases h2
  · rcases hcase r y hy with ⟨j, c, b1, hc, rfl, h2, h3⟩ | ⟨h1, h2⟩ <;> rcases hcase s z hz with ⟨j', c', b2, hc', rfl, h2', h3'⟩ | ⟨h1', h2'⟩
    · by_cases hij : i = j
      · subst hij
        rw [hb] at h2; cases h2
        obtain ⟨q, hm, hf⟩ := hfb c y h3
        by_cases hij' : i = j'
        · subst hij'
          rw [hb] at h2'; cases h2'
          obtain ⟨q', hm', hf'⟩ := hfb c' z h3'
          rw [hf, hf'] at hrs
          rw [(ho.names q c q' c' hm hm').1 hrs]
        · rw [hf, hother j' c' hij' hc'] at hrs
          have := (ho.big q c hm).2.1
          have := nm_high j' c'
          omega
      · rw [hother j c hij hc] at hrs
        by_cases hij' : i = j'
        · subst hij'
          rw [hb] at h2'; cases h2'
          obtain ⟨q', hm', hf'⟩ := hfb c' z h3'
          rw [hf'] at hrs
          have := (ho.big q' c' hm').2.1
          have := nm_high j c
          omega
        · rw [hother j' c' hij' hc'] at hrs; exact hrs
    · rw [focB_low h1'] at hrs
      by_cases hij : i = j
      · subst hij
        rw [hb] at h2; cases h2
        obtain ⟨q, hm, hf⟩ := hfb c y h3
        rw [hf] at hrs
        subst hrs
        rw [hq q c hm] at h2'; cases h2'
      · rw [hother j c hij hc] at hrs
        have := nm_high j c
        omega
    · rw [focB_low h1] at hrs
      by_cases hij : i = j'
      · subst hij
        rw [hb] at h2'; cases h2'
        obtain ⟨q, hm, hf⟩ := hfb c' z h3'
        rw [hf] at hrs
        subst hrs
        rw [hq _ c' hm] at h2; cases h2
      · rw [hother j' c' hij hc'] at hrs
        have := nm_high j' c'
        omega
    · rw [focB_low h1, focB_low h1'] at hrs; exact hrs
  · exact focB_low (by omega)
  · rcases hcase r y hy with ⟨j, c, b', hc, rfl, h2, h3⟩ | ⟨h1, h2⟩
    · by_cases hij : i = j
      · subst hij
        rw [hb] at h2; cases h2
        obtain ⟨q, hm, hf⟩ := hfb c y h3
        rw [hf]; exact (ho.big q c hm).1
      · rw [hother j c hij hc]; exact hr
    · rw [focB_low h1]; exact hr
theorem Sub.unfocusB (i : Nat) (ps : List (Nat × Nat)) {M : List Block} [hM : BlksOk M] {b : Block} {l l' : Heap} {e' : List (Nat × PV)} (ho : PsOk ps) (hb : M[i]? = some []) (hob : okBlk i b) (hcl : ∀ c y, (c, y) ∈ b → ∃ q, (q, c) ∈ ps) (hs : σ.heap = dynBH M l) (hlow : lows l)
    (hq : ∀ q c, (q, c) ∈ ps → ∃ x y, hget l q = some x ∧ hget b c = some y ∧ x.ren (unfB i ps) = y)
    (hl : renHeap (unfB i ps) (hdrop (ps.map (·.1)) l) = l') (he : renEnv (unfB i ps) σ.env = e') (hd : σ.dfr = []) : Sub G N σ ⟨e', dynBH (M.set i b) l', σ.dfr, σ.gh⟩ := by
  subst hl he
  have hil : i < M.length := (List.getElem?_eq_some_iff.1 hb).1
  have hM' : BlksOk (M.set i b) := blksOk_set hob
  have hdl : ∀ (gs : List Nat) (l : Heap), lows l → lows (hdrop gs l) := fun gs l => by
    induction l with
    | nil => exact fun h => h
    | cons x l ih =>
      obtain ⟨s, y⟩ := x
      intro h
      simp only [hdrop]
      split
      · exact ih h.2
      · exact ⟨h.1, ih h.2⟩
  have hlow' : lows (renHeap (unfB i ps) (hdrop (ps.map (·.1)) l)) := lows_ren (hdl _ l hlow)
  have hcase := fun r x h => hget_dynBH_case (M := M) hlow (r := r) (x := x) (by rw [← hs]; exact h)
  have hmem : ∀ r, r ∈ ps.map (·.1) ↔ ∃ c, (r, c) ∈ ps := fun r => by
    rw [List.mem_map]
    exact ⟨fun ⟨p, h1, h2⟩ => ⟨p.2, by rw [← h2]; exact h1⟩, fun ⟨c, h⟩ => ⟨(r, c), h, rfl⟩⟩
  have hhigh : ∀ s, 1000000 ≤ s → unfB i ps s = s := fun s h => unfB_out fun q c hm e => by have := (ho.big q c hm).2.1; omega
  have hkeep : ∀ r, r ∉ ps.map (·.1) → unfB i ps r = r := fun r h => unfB_out fun q c hm e => h ((hmem r).2 ⟨c, e ▸ hm⟩)
  have hji : ∀ j c b' y, M[j]? = some b' → hget b' c = some y → i ≠ j := fun j c b' y h1 h2 e => by
    subst e
    rw [hb] at h1; cases h1; simp [hget] at h2
  have hlo : ∀ r, r < 1000000 → hget (dynBH (M.set i b) (renHeap (unfB i ps) (hdrop (ps.map (·.1)) l))) r = if r ∈ ps.map (·.1) then none else (hget l r).map (Row.ren (unfB i ps)) := fun r hr => by
    rw [hget_dynBH hr, hget_renHeap, hget_hdrop]
    split <;> rfl
  have hat : ∀ q c x, (q, c) ∈ ps → hget l q = some x → hget (dynBH (M.set i b) (renHeap (unfB i ps) (hdrop (ps.map (·.1)) l))) (nm i c) = some (x.ren (unfB i ps)) := fun q c x hm hx => by
    obtain ⟨x', y, h1, h2, h3⟩ := hq q c hm
    rw [hx] at h1; cases h1
    rw [hget_dynBH_nm (ho.big q c hm).2.2 BlksOk.okB hlow', setBlk_get hil, if_pos rfl, h3]
    exact h2
  refine Sub.ren (ρ := unfB i ps) ⟨fun t => eget_renEnv _ _ t, fun r y hy => ?_, fun s y hy => ?_, fun r s y z hy hz hrs => ?_, fun r y hy hr => ?_, fun r y hy hr => ?_, by rw [hd]; rfl, rfl⟩
  · rcases hcase r y hy with ⟨j, c, b', hc, rfl, h2, h3⟩ | ⟨h1, h2⟩
    · have hij := hji j c b' y h2 h3
      have hfix : y.ren (unfB i ps) = y := Row.ren_fix y fun s hs => by
        obtain ⟨d, _, rfl, _⟩ := blk_refs h2 h3 s hs
        exact hhigh _ (nm_high j d)
      rw [hhigh _ (nm_high j c), hfix, hget_dynBH_nm hc BlksOk.okB hlow', setBlk_get hil, if_neg hij, h2]
      exact h3
    · by_cases hm : r ∈ ps.map (·.1)
      · obtain ⟨c, hc⟩ := (hmem r).1 hm
        rw [unfB_at ho hc]; exact hat r c y hc h2
      · rw [hkeep r hm, hlo r h1, if_neg hm, h2]; rfl
  · rcases hget_dynBH_case hlow' hy with ⟨j, c, b', hc, rfl, h2, h3⟩ | ⟨h1, h2⟩
    · rw [setBlk_get hil] at h2
      split at h2
      · rename_i e
        subst e
        cases h2
        obtain ⟨q, hm⟩ := hcl c y (hget_mem h3)
        obtain ⟨x, _, h4, _, _⟩ := hq q c hm
        exact ⟨q, x, by rw [hs, hget_dynBH (ho.big q c hm).2.1]; exact h4, (unfB_at ho hm).symm⟩
      · exact ⟨nm j c, y, by rw [hs, hget_dynBH_nm hc BlksOk.okB hlow, h2]; exact h3, (hhigh _ (nm_high j c)).symm⟩
    · rw [hget_renHeap, hget_hdrop] at h2
      split at h2
      · simp at h2
      · rename_i hm
        obtain ⟨x, hx, _⟩ := Option.map_eq_some_iff.1 h2
        exact ⟨s, x, by rw [hs, hget_dynBH h1]; exact hx, (hkeep s hm).symm⟩
  · have key : ∀ r y, hget σ.heap r = some y → (∃ c, (r, c) ∈ ps ∧ unfB i ps r = nm i c) ∨ (unfB i ps r = r ∧ r ∉ ps.map (·.1) ∧ ∀ c, c < 16 → r ≠ nm i c) := fun r y hy => by
      rcases hcase r y hy with ⟨j, c, b', hc, rfl, h2, h3⟩ | ⟨h1, h2⟩
      · refine .inr ⟨hhigh _ (nm_high j c), fun hm => ?_, fun d hd e => hji j c b' y h2 h3 (nm_inj hc hd e).1.symm⟩
        obtain ⟨d, hd⟩ := (hmem _).1 hm
        have := (ho.big _ d hd).2.1
        have := nm_high j c
        omega
      · by_cases hm : r ∈ ps.map (·.1)
        · obtain ⟨c, hc⟩ := (hmem r).1 hm
          exact .inl ⟨c, hc, unfB_at ho hc⟩
        · exact .inr ⟨hkeep r hm, hm, fun c _ e => by have := nm_high i c; omega⟩
    rcases key r y hy with ⟨c, h1, h2⟩ | ⟨h1, h2, h3⟩ <;> rcases key s z hz with ⟨c', h1', h2'⟩ | ⟨h1', h2', h3'⟩
    · rw [h2, h2'] at hrs
      have e := (nm_inj (ho.big r c h1).2.2 (ho.big s c' h1').2.2 hrs).2
      exact (ho.names r c s c' h1 h1').2 e
    · rw [h2, h1'] at hrs
      exact absurd hrs.symm (h3' c (ho.big r c h1).2.2)
    · rw [h1, h2'] at hrs
      exact absurd hrs (h3 c' (ho.big s c' h1').2.2)
    · rw [h1, h1'] at hrs; exact hrs
  · refine unfB_out fun q c hm e => ?_
    have := (ho.big q c hm).1
    omega
  · by_cases hm : r ∈ ps.map (·.1)
    · obtain ⟨c, hc⟩ := (hmem r).1 hm
      rw [unfB_at ho hc]; have := nm_high i c; omega
    · rw [hkeep r hm]; exact hr
end
end Go.Pv

namespace Go.Pv
class BlksCl (M : List Block) : Prop where
  clean : ∀ (i : Nat) (b : Block), M[i]? = some b → ∀ c y, hget b c = some y → cleanL y.els
def nmsB (M : List Block) : List Nat := (dynB 0 M).map (·.1)
theorem nmsB_mem {M : List Block} [hM : BlksOk M] {s : Nat} : s ∈ nmsB M ↔ ∃ (j c : Nat) (b : Block) (y : Row), c < 16 ∧ s = nm j c ∧ M[j]? = some b ∧ hget b c = some y := by
  unfold nmsB
  rw [List.mem_map]
  constructor
  · rintro ⟨⟨r, y⟩, h1, rfl⟩
    obtain ⟨j, c, b, h2, _, h3, h4⟩ := dynB_mem h1
    rw [Nat.sub_zero] at h3
    have ho := hM.ok j b h3
    exact ⟨j, c, b, y, ho.1 c y h4, h2, h3, hget_first ho.2.1 h4⟩
  · rintro ⟨j, c, b, y, h1, rfl, h3, h4⟩
    refine ⟨(nm j c, y), hget_mem ?_, rfl⟩
    rw [hget_dynB h1 BlksOk.okB 0, if_pos (Nat.zero_le _), Nat.sub_zero, h3]; exact h4
def backLN (H : Heap) (g : Nat → Nat) (gs : List Nat) (lc : Heap) (H0 : Heap) : Heap → Prop
  | [] => True
  | (r, x) :: l => ((if r < 1000 then match hget H r with
      | some y => x.k = y.k ∧ (x.k = 0 ∨ x.els.length = y.els.length)
      | none => False
    else (gs.contains (g r) = true ∨ hget lc (g r) = none) ∧ 1000 ≤ g r) ∧ refsInL H0 x.els ∧ cleanL x.els) ∧ backLN H g gs lc H0 l
theorem backLN_get {H : Heap} {g : Nat → Nat} {gs : List Nat} {lc H0 : Heap} : ∀ {l : Heap}, backLN H g gs lc H0 l → ∀ r x, hget l r = some x → (if r < 1000 then match hget H r with
      | some y => x.k = y.k ∧ (x.k = 0 ∨ x.els.length = y.els.length)
      | none => False
    else (gs.contains (g r) = true ∨ hget lc (g r) = none) ∧ 1000 ≤ g r) ∧ refsInL H0 x.els ∧ cleanL x.els
  | [], _, r, x, h => by simp [hget] at h
  | (s, y) :: l, h, r, x, hx => by
    simp only [hget] at hx
    split at hx
    · rename_i e; subst e; cases hx; exact h.1
    · exact backLN_get h.2 r x hx
section
variable {P : Program} {G : List (Nat × PD)} {ro : Option Nat} {N : Nat} {ops : Array Oper} {σ σ' : St} {o : Oper} {rest : List Oper}
theorem OpT.callB {M M' : List Block} [hM : BlksOk M] [hM' : BlksOk M'] [hC' : BlksCl M'] {c : Call} {f : FuncId} {xo : Operand} {caps args : List PV} {res : PV} {lH lH' lc : Heap} {K : St → Prop} (gl : List (Nat × Nat)) (gs dr : List Nat)
    (hf : ObjFn P G f args (dynBH M lH) res (dynBH M' lH')) (hs : σ.heap = dynBH M lc) (hlH : lows lH) (hlH' : lows lH') (hlc : lows lc)
    (hg1 : (gl.all fun p => decide (p.1 < 1000000)) = true) (hg2 : (gl.all fun p => decide (p.2 < 1000000)) = true)
    (hd : dstOk N o.dst) (ho : o.op = .call c) (hc : c.callee = .value xo) (hx : calleeV (σ.eval xo) = some (f, caps)) (hcal : callable P f = true)
    (hrow : handLU lc (renOf gl) (dynBH M lH) lH) (hinj : injL (renOf gl) lH) (hgs : givL (renOf gl) gs lH) (him : imgL (renOf gl) lH gs) (hgl : (gs.all fun p => decide (p < 1000000)) = true)
    (henv : freeEnv gs (edrop dr σ.env)) (henv2 : lowEnv (edrop dr σ.env)) (hdfr : σ.dfr = []) (hout : freeHeap (renOf gl) lH gs lc) (hout2 : lowOut (renOf gl) lH lc)
    (ha : handsOk σ.heap (dynBH M lH) (renOf gl) (evalL σ c.args.toList ++ caps) args)
    (hback : backLN lH (renOf gl) gs lc (dynBH M' lH') lH') (hall : allIn lH' lH) (hinj2 : injL (renOf gl) lH') (hcl : clean res) (hrf : refsIn (dynBH M' lH') res)
    (hK : K (({ σ with env := edrop dr σ.env, heap := dynBH M' (hmerge (renOf gl) lH' (hdrop gs lc)) } : St).put o.dst (res.ren (renOf gl)))) : OpT P G ro N o σ K := by
  have hlow : ∀ r, r < 1000000 → renOf gl r < 1000000 := fun r h => renOf_low hg2 h
  have hhigh : ∀ s, 1000000 ≤ s → renOf gl s = s := fun s h => renOf_high hg1 h
  have hfix : ∀ (L : List Block) [BlksOk L] j d b y, L[j]? = some b → hget b d = some y → y.ren (renOf gl) = y := fun L _ j d b y h1 h2 => Row.ren_fix y fun s hs => by
    obtain ⟨e, _, rfl, _⟩ := blk_refs h1 h2 s hs
    exact hhigh _ (nm_high j e)
  have hat : ∀ (L : List Block) [BlksOk L] (l : Heap), lows l → ∀ j d b y, d < 16 → L[j]? = some b → hget b d = some y → hget (dynBH L l) (nm j d) = some y := fun L _ l hl j d b y hd h1 h2 => by
    rw [hget_dynBH_nm hd BlksOk.okB hl, h1]; exact h2
  have hgsl : ∀ s ∈ gs, s < 1000000 := fun s h => by simpa using List.all_eq_true.1 hgl s h
  have hmem : ∀ s, s ∈ gs ++ nmsB M ↔ s ∈ gs ∨ s ∈ nmsB M := fun s => List.mem_append
  have hnb : ∀ (L : List Block) [BlksOk L] s, s ∈ nmsB L → 1000000 ≤ s := fun L _ s h => by
    obtain ⟨j, d, _, _, _, rfl, _⟩ := nmsB_mem.1 h
    exact nm_high j d
  have hrefs : ∀ (L : List Block) [BlksOk L] (l : Heap), lows l → ∀ j d b y, L[j]? = some b → hget b d = some y → refsInL (dynBH L l) y.els := fun L _ l hl j d b y h1 h2 => refsInL_of fun s hs => by
    obtain ⟨e, he, rfl, hi⟩ := blk_refs h1 h2 s hs
    obtain ⟨z, hz⟩ := Option.isSome_iff_exists.1 hi
    rw [hat L l hl j e b z he h1 hz]; rfl
  have hinj0 : ∀ (L : List Block) [BlksOk L] (l : Heap), lows l → injL (renOf gl) l → ∀ r s x y, hget (dynBH L l) r = some x → hget (dynBH L l) s = some y → renOf gl r = renOf gl s → r = s := fun L _ l hl hi r s x y h h' he => by
    rcases hget_dynBH_case hl h with ⟨j, d, b, _, rfl, _⟩ | ⟨h1, h2⟩ <;> rcases hget_dynBH_case hl h' with ⟨j', d', b', _, rfl, _⟩ | ⟨h1', h2'⟩
    · rw [hhigh _ (nm_high _ _), hhigh _ (nm_high _ _)] at he; exact he
    · rw [hhigh _ (nm_high _ _)] at he; have := hlow s h1'; have := nm_high j d; omega
    · rw [hhigh _ (nm_high _ _)] at he; have := hlow r h1; have := nm_high j' d'; omega
    · exact injL_get hi r s x y (hget_mem h2) (hget_mem h2') he
  refine OpT.relook (σ' := ({ σ with env := edrop dr σ.env, heap := dynBH M' (hmerge (renOf gl) lH' (hdrop gs lc)) } : St).put o.dst (res.ren (renOf gl))) ?_ hK
  refine OpT.callU2 dr (H := dynBH M lH) (g := renOf gl) (gs := gs ++ nmsB M) ho hc hx hcal hf
    ⟨⟨fun r x h => ?_, hinj0 M lH hlH hinj, fun r x h => ?_⟩, fun r x h hr => ?_, fun r x h hr => ?_, fun s h => ?_, fun s h => ?_, fun s h t => ?_, fun s _ => by rw [hdfr]; simp [rowsOfL], fun s h t y hy hn => ?_⟩ ha hd ?_
  · show hget σ.heap _ = _
    rcases hget_dynBH_case hlH h with ⟨j, d, b, hd, rfl, h2, h3⟩ | ⟨h1, h2⟩
    · rw [hhigh _ (nm_high _ _), hs, hat M lc hlc j d b x hd h2 h3, hfix M j d b x h2 h3]
    · rw [hs, hget_dynBH (hlow r h1)]; exact (handLU_get hrow r x h2).1
  · rcases hget_dynBH_case hlH h with ⟨j, d, b, hd, rfl, h2, h3⟩ | ⟨h1, h2⟩
    · exact hrefs M lH hlH j d b x h2 h3
    · exact (handLU_get hrow r x h2).2
  · rw [hmem]
    rcases hget_dynBH_case hlH h with ⟨j, d, b, hd, rfl, h2, h3⟩ | ⟨h1, h2⟩
    · exact .inr (nmsB_mem.2 ⟨j, d, b, x, hd, hhigh _ (nm_high _ _), h2, h3⟩)
    · have := givL_get hgs r x h2
      rw [if_neg (by omega)] at this; exact .inl this
  · rw [hmem]
    rintro (h3 | h3)
    · rcases hget_dynBH_case hlH h with ⟨j, d, b, hd, rfl, _⟩ | ⟨h1, h2⟩
      · have := nm_high j d; omega
      · have := givL_get hgs r x h2
        rw [if_pos hr] at this; exact this h3
    · have := hlow r (by omega); have := hnb M _ h3; omega
  · rcases (hmem s).1 h with h | h
    · obtain ⟨⟨r, x, h2, h3⟩, _⟩ := imgL_get him s h
      have hr : r < 1000000 := Nat.lt_of_not_le fun h4 => by rw [lows_get hlH r h4] at h2; cases h2
      exact ⟨r, x, by rw [hget_dynBH hr]; exact h2, h3⟩
    · obtain ⟨j, d, b, y, h1, rfl, h3, h4⟩ := nmsB_mem.1 h
      exact ⟨nm j d, y, hat M lH hlH j d b y h1 h3 h4, hhigh _ (nm_high _ _)⟩
  · rcases (hmem s).1 h with h | h
    · exact (imgL_get him s h).2
    · have := hnb M _ h; omega
  · rcases (hmem s).1 h with h | h
    · exact freeEnv_get henv s h t
    · intro hm; have := lowEnv_get henv2 t _ hm; have := hnb M _ h; omega
  · have hy : hget σ.heap t = some y := hy
    rw [hs] at hy
    have hty : hget lc t = some y := by
      rcases hget_dynBH_case hlc hy with ⟨j, d, b, hd, rfl, h2, h3⟩ | ⟨h1, h2⟩
      · exact absurd (hhigh _ (nm_high j d)) (hn (nm j d) y (hat M lH hlH j d b y hd h2 h3))
      · exact h2
    have hn' : ∀ r x, hget lH r = some x → renOf gl r ≠ t := fun r x hx => hn r x (by
      have hr : r < 1000000 := Nat.lt_of_not_le fun h4 => by rw [lows_get hlH r h4] at hx; cases hx
      rw [hget_dynBH hr]; exact hx)
    rcases (hmem s).1 h with h | h
    · exact freeHeap_get hout s h t y hty hn'
    · intro hm; have := lowOut_get hout2 t y hty hn' _ hm; have := hnb M _ h; omega
  · rintro p H' ⟨rfl, rfl⟩
    have hb : BackU { σ with env := edrop dr σ.env } (dynBH M lH) (dynBH M' lH') (renOf gl) (renOf gl) (gs ++ nmsB M) := by
      refine ⟨fun r x' h hr => ?_, fun r x h hr => ?_, fun r x' h hr => ?_, hinj0 M' lH' hlH' hinj2, fun r x h => ?_⟩
      · rcases hget_dynBH_case hlH' h with ⟨j, d, b, hd, rfl, _⟩ | ⟨h1, h2⟩
        · have := nm_high j d; omega
        · have := (backLN_get hback r x' h2).1
          rw [if_pos hr] at this
          split at this
          · rename_i y hy; exact ⟨y, by rw [hget_dynBH (by omega)]; exact hy, rfl, this.1, fun hk => this.2.resolve_left (by have := this.1; omega)⟩
          · exact this.elim
      · rcases hget_dynBH_case hlH h with ⟨j, d, b, hd, rfl, _⟩ | ⟨h1, h2⟩
        · have := nm_high j d; omega
        · obtain ⟨x', hx'⟩ := Option.isSome_iff_exists.1 (allIn_get hall r x (hget_mem h2))
          exact ⟨x', by rw [hget_dynBH h1]; exact hx'⟩
      · rw [hmem]
        rcases hget_dynBH_case hlH' h with ⟨j, d, b, hd, rfl, h2, h3⟩ | ⟨h1, h2⟩
        · rw [hhigh _ (nm_high _ _)]
          refine ⟨?_, by have := nm_high j d; omega⟩
          cases hh : hget σ.heap (nm j d) with
          | none => exact .inl rfl
          | some z =>
            rw [hs] at hh
            rcases hget_dynBH_case hlc hh with ⟨j', d', b', hd', he, h2', h3'⟩ | ⟨h1', _⟩
            · exact .inr (.inr (nmsB_mem.2 ⟨j', d', b', z, hd', he, h2', h3'⟩))
            · have := nm_high j d; omega
        · have := (backLN_get hback r x' h2).1
          rw [if_neg (by omega)] at this
          refine ⟨this.1.elim (fun h => .inr (.inl (by simpa using h))) (fun h => .inl ?_), this.2⟩
          show hget σ.heap _ = none
          rw [hs, hget_dynBH (hlow r h1)]; exact h
      · rcases hget_dynBH_case hlH' h with ⟨j, d, b, hd, rfl, h2, h3⟩ | ⟨h1, h2⟩
        · exact ⟨hrefs M' lH' hlH' j d b x h2 h3, hC'.clean j b h2 d x h3⟩
        · exact (backLN_get hback r x h2).2
    refine ⟨renOf gl, hb, hcl, hrf, ?_⟩
    have hm := hb.merged
    have hmin : ∀ r x, hget lH' r = some x → hget (hmerge (renOf gl) lH' (hdrop gs lc)) (renOf gl r) = some (x.ren (renOf gl)) := (hmerge_ok (ρ := renOf gl) (l := lH') (H0 := hdrop gs lc) (fun r s hr hs he => by
      obtain ⟨x, hx⟩ := Option.isSome_iff_exists.1 hr
      obtain ⟨y, hy⟩ := Option.isSome_iff_exists.1 hs
      exact injL_get hinj2 r s x y (hget_mem hx) (hget_mem hy) he)).1
    have hmout : ∀ s, (∀ r x, hget lH' r = some x → renOf gl r ≠ s) → hget (hmerge (renOf gl) lH' (hdrop gs lc)) s = if s ∈ gs then none else hget lc s := fun s h => ((hmerge_ok (ρ := renOf gl) (l := lH') (H0 := hdrop gs lc) (fun r s hr hs he => by
      obtain ⟨x, hx⟩ := Option.isSome_iff_exists.1 hr
      obtain ⟨y, hy⟩ := Option.isSome_iff_exists.1 hs
      exact injL_get hinj2 r s x y (hget_mem hx) (hget_mem hy) he)).2 s h).trans (hget_hdrop _ _ _)
    have hlm : ∀ s, 1000000 ≤ s → hget (hmerge (renOf gl) lH' (hdrop gs lc)) s = none := fun s h => by
      rw [hmout s fun r x hx e => by
        have hr : r < 1000000 := Nat.lt_of_not_le fun h4 => by rw [lows_get hlH' r h4] at hx; cases hx
        have := hlow r hr; omega]
      split
      · rfl
      · exact lows_get hlc s h
    have hat2 : ∀ (L : List Block) [BlksOk L] (l : Heap), (∀ s, 1000000 ≤ s → hget l s = none) → ∀ s, 1000000 ≤ s → hget (dynBH L l) s = hget (dynB 0 L) s := fun L _ l hl s hs => by
      simp only [dynBH, hget_append, hl s hs]; cases hget (dynB 0 L) s <;> rfl
    have hheap : ∀ s, hget (hmerge (renOf gl) (dynBH M' lH') (hdrop (gs ++ nmsB M) σ.heap)) s = hget (dynBH M' (hmerge (renOf gl) lH' (hdrop gs lc))) s := fun s => by
      by_cases hex : ∃ r x, hget (dynBH M' lH') r = some x ∧ renOf gl r = s
      · obtain ⟨r, x, h1, rfl⟩ := hex
        rw [hm.inn r x h1]
        rcases hget_dynBH_case hlH' h1 with ⟨j, d, b, hd, rfl, h2, h3⟩ | ⟨h3, h2⟩
        · rw [hhigh _ (nm_high _ _), hfix M' j d b x h2 h3, hat2 M' _ hlm _ (nm_high _ _), hget_dynB hd BlksOk.okB 0, if_pos (Nat.zero_le _), Nat.sub_zero, h2]
          exact h3.symm
        · rw [hget_dynBH (hlow r h3), hmin r x h2]
      · have hn : ∀ r x, hget (dynBH M' lH') r = some x → renOf gl r ≠ s := fun r x h1 h2 => hex ⟨r, x, h1, h2⟩
        rw [hm.out s hn]
        show (if s ∈ gs ++ nmsB M then none else hget σ.heap s) = _
        rw [hs]
        by_cases hsl : s < 1000000
        · rw [hget_dynBH hsl, hget_dynBH hsl]
          have hn' : ∀ r x, hget lH' r = some x → renOf gl r ≠ s := fun r x hx => hn r x (by
            have hr : r < 1000000 := Nat.lt_of_not_le fun h4 => by rw [lows_get hlH' r h4] at hx; cases hx
            rw [hget_dynBH hr]; exact hx)
          rw [hmout s hn']
          by_cases h1 : s ∈ gs
          · rw [if_pos ((hmem s).2 (.inl h1)), if_pos h1]
          · rw [if_neg h1, if_neg]
            intro h2
            rcases (hmem s).1 h2 with h2 | h2
            · exact h1 h2
            · have := hnb M _ h2; omega
        · rw [hat2 M' _ hlm s (by omega)]
          have h0 : hget (dynB 0 M') s = none := by
            cases hh : hget (dynB 0 M') s with
            | none => rfl
            | some y =>
              exact absurd (hhigh s (by omega)) (hn s y (by rw [hat2 M' lH' (fun s h => lows_get hlH' s h) s (by omega)]; exact hh))
          rw [h0]
          split
          · rfl
          · rename_i hns
            rw [hat2 M lc (fun s h => lows_get hlc s h) s (by omega)]
            cases hh : hget (dynB 0 M) s with
            | none => rfl
            | some y => exact absurd ((hmem _).2 (.inr (List.mem_map.2 ⟨(s, y), hget_mem hh, rfl⟩))) hns
    refine ⟨?_, by rw [St.put_rest, St.put_rest]; rfl⟩
    funext key
    cases key with
    | t t => cases hdst : o.dst <;> simp [St.look, St.put]
    | h s =>
      have := hheap s
      cases hdst : o.dst <;> simp [St.look, St.put, this]
end
end Go.Pv

namespace Go.Pv
theorem dyBR {M : List Block} {l : Heap} {r : Nat} {x : Option Row} (h : hget l r = x) (hr : r < 1000000 := by decide) : hget (dynBH M l) r = x := (hget_dynBH hr).trans h
theorem dyBS {M : List Block} {l : Heap} {r : Nat} (h : (hget l r).isSome = true) (hr : r < 1000000 := by decide) : (hget (dynBH M l) r).isSome = true := by rw [hget_dynBH hr]; exact h
attribute [go_sem] hget_dynBH hput_dynBH
structure BS (α ω : Type) where
  wk : α → Option ω
  c0 : Nat → ω → Row
  c1 : ω → Row
  F : PV → α → PV
class BN {α ω : Type} (S : BS α ω) : Prop where
  ren0 : ∀ ρ s w, (S.c0 s w).ren ρ = S.c0 (ρ s) w
  rows0 : ∀ s w r, r ∈ rowsOfL (S.c0 s w).els → r = s
  clean0 : ∀ s w, cleanL (S.c0 s w).els
  data1 : ∀ w, ∃ l : List PD, (S.c1 w).els = l.map PV.d
  renF : ∀ ρ p x, (S.F p x).ren ρ = S.F (p.ren ρ) x
  rowsF : ∀ p x r, r ∈ rowsOf (S.F p x) → r ∈ rowsOf p
  refsF : ∀ H p x, refsIn H p → refsIn H (S.F p x)
  killF : ∀ q p x, (S.F p x).kill q = S.F (p.kill q) x
  cleanF : ∀ p x, clean p → clean (S.F p x)
  byteF : ∀ p x, isByte (S.F p x) = false
section
variable {α ω : Type} (S : BS α ω)
def blkOf (i : Nat) (x : α) : Block := match S.wk x with
  | none => []
  | some w => [(0, S.c0 (nm i 1) w), (1, S.c1 w)]
def blksGo : Nat → List α → List Block
  | _, [] => []
  | i, x :: l => blkOf S i x :: blksGo (i + 1) l
def blks (L : List α) : List Block := blksGo S 0 L
theorem blksGo_get : ∀ (L : List α) (i j : Nat), (blksGo S i L)[j]? = (L[j]?).map (blkOf S (i + j))
  | [], i, j => by simp [blksGo]
  | x :: L, i, 0 => by simp [blksGo]
  | x :: L, i, j + 1 => by
    simp only [blksGo, List.getElem?_cons_succ]
    rw [blksGo_get L (i + 1) j, show i + 1 + j = i + (j + 1) by omega]
theorem blks_get (L : List α) (j : Nat) : (blks S L)[j]? = (L[j]?).map (blkOf S j) := by unfold blks; rw [blksGo_get, Nat.zero_add]
theorem blks_set (L : List α) (i : Nat) (x : α) : blks S (L.set i x) = (blks S L).set i (blkOf S i x) := by
  apply List.ext_getElem?
  intro j
  rw [blks_get, List.getElem?_set, List.getElem?_set, blks_get]
  by_cases h : i = j
  · subst h
    by_cases hl : i < L.length
    · have : i < (blks S L).length := by
        have := blks_get S L i
        rw [List.getElem?_eq_getElem hl] at this
        exact (List.getElem?_eq_some_iff.1 this).1
      simp [hl, this]
    · have : ¬ i < (blks S L).length := fun h2 => by
        have := blks_get S L i
        rw [List.getElem?_eq_getElem h2, List.getElem?_eq_none (by omega)] at this
        cases this
      simp [hl, this]
  · simp [h]
theorem blk_none {i : Nat} {x : α} (h : S.wk x = none) : blkOf S i x = [] := by unfold blkOf; rw [h]
theorem blk_some {i : Nat} {x : α} {w : ω} (h : S.wk x = some w) : blkOf S i x = [(0, S.c0 (nm i 1) w), (1, S.c1 w)] := by unfold blkOf; rw [h]
def ptrB (i : Nat) (x : α) : PV := match S.wk x with
  | none => .d .nilptr
  | some _ => .ptr (nm i 0) 0 0
theorem ptrB_none {i : Nat} {x : α} (h : S.wk x = none) : ptrB S i x = .d .nilptr := by unfold ptrB; rw [h]
theorem ptrB_some {i : Nat} {x : α} {w : ω} (h : S.wk x = some w) : ptrB S i x = .ptr (nm i 0) 0 0 := by unfold ptrB; rw [h]
def nelB (L : List α) : List PV := nels (fun i x => S.F (ptrB S i x) x) L
variable {S}
theorem okBlk_of [hS : BN S] (i : Nat) (x : α) : okBlk i (blkOf S i x) := by
  cases h : S.wk x with
  | none => rw [blk_none S h]; exact ⟨fun c y h => (by cases h), List.nodup_nil, fun c y h => (by cases h)⟩
  | some w =>
    rw [blk_some S h]
    refine ⟨fun c y h => ?_, by simp, fun c y h s hs => ?_⟩
    · simp only [List.mem_cons, Prod.mk.injEq, List.not_mem_nil, or_false] at h
      omega
    · simp only [List.mem_cons, Prod.mk.injEq, List.not_mem_nil, or_false] at h
      rcases h with ⟨rfl, rfl⟩ | ⟨rfl, rfl⟩
      · exact ⟨1, by omega, hS.rows0 _ _ _ hs, rfl⟩
      · obtain ⟨l, hl⟩ := hS.data1 w
        rw [hl, show rowsOfL (l.map PV.d) = [] from dl_rows l] at hs
        cases hs
instance [hS : BN S] (L : List α) : BlksOk (blks S L) := ⟨fun i b hb => by
  rw [blks_get, Option.map_eq_some_iff] at hb
  obtain ⟨x, _, rfl⟩ := hb
  exact okBlk_of i x⟩
theorem cleanL_dl : ∀ l : List PD, cleanL (l.map PV.d)
  | [] => trivial
  | _ :: l => ⟨trivial, cleanL_dl l⟩
instance [hS : BN S] (L : List α) : BlksCl (blks S L) := ⟨fun i b hb c y hy => by
  rw [blks_get, Option.map_eq_some_iff] at hb
  obtain ⟨x, _, rfl⟩ := hb
  cases h : S.wk x with
  | none => rw [blk_none S h] at hy; simp [hget] at hy
  | some w =>
    rw [blk_some S h] at hy
    have := hget_mem hy
    simp only [List.mem_cons, Prod.mk.injEq, List.not_mem_nil, or_false] at this
    rcases this with ⟨rfl, rfl⟩ | ⟨rfl, rfl⟩
    · exact hS.clean0 _ _
    · obtain ⟨l, hl⟩ := hS.data1 w
      rw [hl]; exact cleanL_dl l⟩
@[go_sem] theorem nelB_length (L : List α) : (nelB S L).length = L.length := nels_length _ L
theorem nelB_get (L : List α) (i : Nat) : (nelB S L)[i]? = (L[i]?).map fun x => S.F (ptrB S i x) x := nels_get _ L i
theorem nelB_at {L : List α} {i : Nat} {x : α} (h : L[i]? = some x) : (nelB S L)[i]? = some (S.F (ptrB S i x) x) := by rw [nelB_get, h]; rfl
theorem nelB_hole {L : List α} {i : Nat} {x : α} (h : L[i]? = some x) (p : PV) : ((nelB S L).set i p)[i]? = some p := by
  have := (List.getElem?_eq_some_iff.1 h).1
  rw [List.getElem?_set]; simp [nelB_length, this]
theorem nelB_set {L : List α} {i : Nat} {x : α} (p : PV) (h : p = S.F (ptrB S i x) x) : (nelB S L).set i p = nelB S (L.set i x) := by
  subst h; exact nels_set _ L i x
theorem blks_same {L : List α} {i : Nat} {x y : α} (hx : L[i]? = some x) (h : S.wk y = S.wk x) : blks S (L.set i y) = blks S L := by
  rw [blks_set]
  have e : blkOf S i y = blkOf S i x := by unfold blkOf; rw [h]
  rw [e]
  apply List.ext_getElem?
  intro j
  rw [List.getElem?_set]
  by_cases hij : i = j
  · subst hij
    have hb : (blks S L)[i]? = some (blkOf S i x) := by rw [blks_get, hx]; rfl
    have := (List.getElem?_eq_some_iff.1 hb).1
    rw [if_pos rfl, if_pos this, hb]
  · rw [if_neg hij]
theorem ptrB_rows {i r : Nat} {x : α} (h : r ∈ rowsOf (ptrB S i x)) : r = nm i 0 ∧ ∃ w, S.wk x = some w := by
  cases hw : S.wk x with
  | none => rw [ptrB_none S hw] at h; simp [rowsOf] at h
  | some w => rw [ptrB_some S hw] at h; simp [rowsOf] at h; exact ⟨h, w, rfl⟩
theorem nelB_rows [hS : BN S] {L : List α} {r : Nat} (h : r ∈ rowsOfL (nelB S L)) : 1000000 ≤ r := by
  apply Classical.byContradiction
  intro hlt
  refine rowsOfL_of (fun i p hp hm => ?_) h
  rw [nelB_get, Option.map_eq_some_iff] at hp
  obtain ⟨x, _, rfl⟩ := hp
  have := (ptrB_rows (hS.rowsF _ _ _ hm)).1
  have := nm_high i 0
  omega
@[go_sem] theorem nelB_kill [hS : BN S] {r : Nat} {L : List α} (hr : r < 1000000) : killL r (nelB S L) = nelB S L := killL_id _ fun hm => by
  have := nelB_rows hm; omega
@[go_sem] theorem nelB_kill_hole [hS : BN S] {r i : Nat} {L : List α} {p : PV} (hr : r < 1000000) : killL r ((nelB S L).set i p) = (nelB S L).set i (p.kill r) := by
  rw [killL_map, List.map_set, ← killL_map, nelB_kill hr]
theorem nelB_free [hS : BN S] {r : Nat} {L : List α} (hr : r < 1000000) : (rowsOfL (nelB S L)).contains r = false := by
  have : r ∉ rowsOfL (nelB S L) := fun h => by have := nelB_rows h; omega
  simpa using this
theorem nelB_notin_hole [hS : BN S] {r i : Nat} {L : List α} {p : PV} (hr : r < 1000000) (hp : (rowsOf p).contains r = false) : r ∉ rowsOfL ((nelB S L).set i p) := rowsOfL_of fun j q hq hm => by
  rw [List.getElem?_set] at hq
  split at hq
  · split at hq
    · cases hq; simp at hp; exact hp hm
    · cases hq
  · rw [nelB_get, Option.map_eq_some_iff] at hq
    obtain ⟨x, _, rfl⟩ := hq
    have := (ptrB_rows (hS.rowsF _ _ _ hm)).1
    have := nm_high j 0
    omega
theorem nelB_free_hole [hS : BN S] {r i : Nat} {L : List α} {p : PV} (hr : r < 1000000) (hp : (rowsOf p).contains r = false) : (rowsOfL ((nelB S L).set i p)).contains r = false := by simpa using nelB_notin_hole hr hp
@[go_sem] theorem nelB_freeA [hS : BN S] {gs : List Nat} {L : List α} (h : (gs.all fun s => decide (s < 1000000)) = true) : ((rowsOfL (nelB S L)).any fun r => gs.contains r) = false := by
  rw [List.any_eq_false]
  intro r hr
  have h1 := nelB_rows hr
  intro hc
  have := List.all_eq_true.1 h r (by simpa using hc)
  simp at this
  omega
theorem nelB_refs [hS : BN S] {L : List α} {l : Heap} (hl : lows l) : refsInL (dynBH (blks S L) l) (nelB S L) := refsInL_each fun i p hp => by
  rw [nelB_get, Option.map_eq_some_iff] at hp
  obtain ⟨x, h1, rfl⟩ := hp
  refine hS.refsF _ _ _ (refsIn_of fun r hr => ?_)
  obtain ⟨rfl, w, hw⟩ := ptrB_rows hr
  rw [hget_dynBH_nm (by omega) BlksOk.okB hl, blks_get, h1, Option.map_some, Option.bind_some, blk_some S hw]; rfl
theorem nelB_refs_hole [hS : BN S] {L : List α} {l : Heap} {i : Nat} {p : PV} (hl : lows l) (h : refsIn (dynBH ((blks S L).set i []) l) p) : refsInL (dynBH ((blks S L).set i []) l) ((nelB S L).set i p) := refsInL_each fun j q hq => by
  rw [List.getElem?_set] at hq
  split at hq
  · split at hq
    · cases hq; exact h
    · cases hq
  · rename_i hij
    rw [nelB_get, Option.map_eq_some_iff] at hq
    obtain ⟨x, h1, rfl⟩ := hq
    refine hS.refsF _ _ _ (refsIn_of fun r hr => ?_)
    obtain ⟨rfl, w, hw⟩ := ptrB_rows hr
    rw [hget_dynBH_nm (by omega) BlksOk.okB hl, List.getElem?_set, if_neg hij, blks_get, h1, Option.map_some, Option.bind_some, blk_some S hw]; rfl
@[go_sem] theorem nelB_clean [hS : BN S] {L : List α} : cleanL (nelB S L) = True := by
  refine eq_true ?_
  have : ∀ (l : List PV), (∀ (i : Nat) p, l[i]? = some p → clean p) → cleanL l := fun l => by
    induction l with
    | nil => exact fun _ => trivial
    | cons p l ih => exact fun h => ⟨h 0 p rfl, ih fun i q hq => h (i + 1) q (by simpa using hq)⟩
  refine this _ fun i p hp => ?_
  rw [nelB_get, Option.map_eq_some_iff] at hp
  obtain ⟨x, _, rfl⟩ := hp
  refine hS.cleanF _ _ ?_
  cases hw : S.wk x with
  | none => rw [ptrB_none S hw]; trivial
  | some w => rw [ptrB_some S hw]; trivial
theorem nelB_renOf [hS : BN S] {L : List α} {gl : List (Nat × Nat)} (h : (gl.all fun p => decide (p.1 < 1000000)) = true) : renL (renOf gl) (nelB S L) = nelB S L := renL_fix _ fun r hr => renOf_high h (nelB_rows hr)
theorem nelB_ren [hS : BN S] (ρ : Nat → Nat) {L : List α} {i : Nat} {x : α} (h : L[i]? = some x) (hρ : ∀ j, i ≠ j → ρ (nm j 0) = nm j 0) : renL ρ (nelB S L) = (nelB S L).set i ((S.F (ptrB S i x) x).ren ρ) := by
  rw [renL_map]
  apply List.ext_getElem?
  intro j
  rw [List.getElem?_map, List.getElem?_set, nelB_length, nelB_get]
  by_cases hij : i = j
  · subst hij
    have := (List.getElem?_eq_some_iff.1 h).1
    rw [if_pos rfl, if_pos this, h]; rfl
  · rw [if_neg hij]
    cases hj : L[j]? with
    | none => rfl
    | some y =>
      simp only [Option.map_some, Option.some.injEq]
      rw [hS.renF]
      congr 1
      exact ren_fix _ fun r hr => by
        obtain ⟨rfl, _⟩ := ptrB_rows hr
        exact hρ j hij
theorem nelB_focus [hS : BN S] {L : List α} {i q0 q1 : Nat} {x : α} {w : ω} (h : L[i]? = some x) (hw : S.wk x = some w) : renL (focB i [(q0, 0), (q1, 1)]) (nelB S L) = (nelB S L).set i (S.F (.ptr q0 0 0) x) := by
  rw [nelB_ren _ h (fun j hij => focB_out fun q c hm => by
    simp only [List.mem_cons, Prod.mk.injEq, List.not_mem_nil, or_false] at hm
    intro e
    exact hij (nm_inj (by omega) (by omega) e).1.symm), hS.renF, ptrB_some S hw]
  simp only [PV.ren, focB, if_true]
theorem nelB_unfocus [hS : BN S] {L : List α} {i q0 q1 : Nat} {x y : α} {w : ω} (h : L[i]? = some y) (hw : S.wk x = some w) (hq0 : q0 < 1000000) (hq1 : q1 < 1000000) : renL (unfB i [(q0, 0), (q1, 1)]) ((nelB S L).set i (S.F (.ptr q0 0 0) x)) = nelB S (L.set i x) := by
  have hi := (List.getElem?_eq_some_iff.1 h).1
  have hx : ((nelB S L).set i (S.F (.ptr q0 0 0) x))[i]? = some (S.F (.ptr q0 0 0) x) := nelB_hole h _
  rw [renL_map]
  apply List.ext_getElem?
  intro j
  rw [List.getElem?_map, List.getElem?_set, nelB_length, nelB_get, nelB_get, List.getElem?_set]
  by_cases hij : i = j
  · subst hij
    rw [if_pos rfl, if_pos hi, if_pos rfl, if_pos hi]
    simp only [Option.map_some, Option.some.injEq]
    rw [hS.renF, ptrB_some S hw]
    simp only [PV.ren, unfB, if_true]
  · rw [if_neg hij, if_neg hij]
    cases hj : L[j]? with
    | none => rfl
    | some z =>
      simp only [Option.map_some, Option.some.injEq]
      rw [hS.renF]
      congr 1
      exact ren_fix _ fun r hr => by
        obtain ⟨rfl, _⟩ := ptrB_rows hr
        exact unfB_out fun q c hm => by
          simp only [List.mem_cons, Prod.mk.injEq, List.not_mem_nil, or_false] at hm
          have := nm_high j 0
          omega
end
end Go.Pv

namespace Go.Pv
section
variable {α ω : Type} {S : BS α ω} {P : Program} {G : List (Nat × PD)} {ro : Option Nat} {N : Nat} {ops : Array Oper} {σ σ' : St} {o : Oper} {rest : List Oper}
theorem psTwo {q0 q1 : Nat} (h0 : 1000 ≤ q0 ∧ q0 < 1000000) (h1 : 1000 ≤ q1 ∧ q1 < 1000000) (hne : q0 ≠ q1) : PsOk [(q0, 0), (q1, 1)] := ⟨fun q c q' c' h h' => by
    simp only [List.mem_cons, Prod.mk.injEq, List.not_mem_nil, or_false] at h h'
    omega, fun q c h => by
    simp only [List.mem_cons, Prod.mk.injEq, List.not_mem_nil, or_false] at h
    omega⟩
theorem none0 (S : BS α ω) : Sub G N σ ⟨σ.env, dynBH (blks S []) σ.heap, σ.dfr, σ.gh⟩ := fun _ _ _ _ φ hr => ⟨φ, hr⟩
theorem opS [hS : BN S] (i q0 q1 : Nat) (y0 y1 : Row) {L : List α} {x : α} {w : ω} {l l' : Heap} {e' : List (Nat × PV)} (hx : L[i]? = some x) (hw : S.wk x = some w)
    (hy0 : S.c0 q1 w = y0 := by rfl) (hy1 : S.c1 w = y1 := by rfl) (hs : σ.heap = dynBH (blks S L) l := by rfl) (hlow : lows l := by (repeat' (first | exact trivial | decide | apply And.intro))) (hq0 : hget l q0 = none := by rfl) (hq1 : hget l q1 = none := by rfl)
    (h0 : 1000 ≤ q0 ∧ q0 < 1000000 := by decide) (h1 : 1000 ≤ q1 ∧ q1 < 1000000 := by decide) (hne : q0 ≠ q1 := by decide)
    (hl : renHeap (focB i [(q0, 0), (q1, 1)]) l = l' := by (simp only [renHeap, Row.ren, renL, PV.ren, dl_ren, focB_low, nelB_focus hx hw, Nat.reduceLT]; rfl)) (he : renEnv (focB i [(q0, 0), (q1, 1)]) σ.env = e' := by (simp only [renEnv, renL, PV.ren, focB_low, Nat.reduceLT]; rfl)) (hd : σ.dfr = [] := by rfl) :
    Sub G N σ ⟨e', dynBH ((blks S L).set i []) ((q0, y0) :: (q1, y1) :: l'), σ.dfr, σ.gh⟩ := by
  subst hy0 hy1
  have hb : (blks S L)[i]? = some [(0, S.c0 (nm i 1) w), (1, S.c1 w)] := by rw [blks_get, hx, Option.map_some, blk_some S hw]
  have ho := psTwo h0 h1 hne
  have h := Sub.focusB (G := G) (N := N) (σ := σ) i [(q0, 0), (q1, 1)] ho hb (fun c y hm => by
    simp only [List.mem_cons, Prod.mk.injEq, List.not_mem_nil, or_false] at hm
    rcases hm with ⟨rfl, _⟩ | ⟨rfl, _⟩
    · exact ⟨q0, by simp⟩
    · exact ⟨q1, by simp⟩) hs hlow (fun q c hm => by
    simp only [List.mem_cons, Prod.mk.injEq, List.not_mem_nil, or_false] at hm
    rcases hm with ⟨rfl, _⟩ | ⟨rfl, _⟩
    · exact hq0
    · exact hq1) hl he hd
  have e1 : outB i [(q0, 0), (q1, 1)] [(0, S.c0 (nm i 1) w), (1, S.c1 w)] = [(q0, S.c0 q1 w), (q1, S.c1 w)] := by
    have r1 : focB i [(q0, 0), (q1, 1)] (nm i 1) = q1 := focB_at ho (by simp)
    have r2 : (S.c1 w).ren (focB i [(q0, 0), (q1, 1)]) = S.c1 w := Row.ren_fix _ fun r hr => by
      obtain ⟨l, hl⟩ := hS.data1 w
      rw [hl, show rowsOfL (l.map PV.d) = [] from dl_rows l] at hr
      cases hr
    simp only [outB, List.filterMap_cons, List.filterMap_nil, hget, if_true, Nat.reduceEqDiff, if_false, Option.map_some, hS.ren0, r1, r2]
  rw [e1] at h
  exact h
theorem opN [hS : BN S] (i : Nat) {L : List α} {x : α} {l l' : Heap} (hx : L[i]? = some x) (hw : S.wk x = none) (hs : σ.heap = dynBH (blks S L) l := by rfl)
    (hl : l = l' := by (rw [← nelB_set (S := S) (L := L) (i := i) (x := x) (S.F (.d .nilptr) x) (by rw [ptrB_none S hw]), List.set_getElem?_self hx])) : Sub G N σ ⟨σ.env, dynBH ((blks S L).set i []) l', σ.dfr, σ.gh⟩ := by
  subst hl
  have e : (blks S L).set i [] = blks S L := by
    have := blks_set S L i x
    rw [blk_none S hw, blks_same hx rfl] at this
    exact this.symm
  rw [e]
  exact fun _ _ _ _ φ hr => ⟨φ, by rw [← hs]; exact hr⟩
theorem nelB_open {L : List α} {i : Nat} {x : α} (hx : L[i]? = some x) (hw : S.wk x = none) : nelB S L = (nelB S L).set i (S.F (.d .nilptr) x) := by
  have h := nelB_at (S := S) hx
  rw [ptrB_none S hw] at h
  apply List.ext_getElem?
  intro j
  rw [List.getElem?_set]
  by_cases hij : i = j
  · subst hij
    have := (List.getElem?_eq_some_iff.1 h).1
    rw [if_pos rfl, if_pos this, h]
  · rw [if_neg hij]
theorem shS [hS : BN S] (i q0 q1 : Nat) {L : List α} {y : α} (x : α) {w : ω} (l' : Heap) {l : Heap} {e' : List (Nat × PV)} (hy : L[i]? = some y) (hw : S.wk x = some w)
    (hs : σ.heap = dynBH ((blks S L).set i []) l := by rfl) (hlow : lows l := by (repeat' (first | exact trivial | decide | apply And.intro))) (hq0 : hget l q0 = some (S.c0 q1 w) := by first | rfl | (simp only [go_sem, ↓reduceIte, Nat.reduceEqDiff, List.length_append, List.length_set, List.length_replicate, List.length_cons, List.length_nil, Nat.zero_add] <;> rfl)) (hq1 : hget l q1 = some (S.c1 w) := by rfl)
    (h0 : 1000 ≤ q0 ∧ q0 < 1000000 := by decide) (h1 : 1000 ≤ q1 ∧ q1 < 1000000 := by decide) (hne : q0 ≠ q1 := by decide)
    (hl : renTo (unfB i [(q0, 0), (q1, 1)]) (hdrop [q0, q1] l) l') (hall : allIn l' (hdrop [q0, q1] l) := by (repeat' (first | exact trivial | exact rfl | apply And.intro))) (he : renEnv (unfB i [(q0, 0), (q1, 1)]) σ.env = e' := by rfl) (hd : σ.dfr = [] := by rfl) :
    Sub G N σ ⟨e', dynBH (blks S (L.set i x)) l', σ.dfr, σ.gh⟩ := fun P B a w' φ hr => by
  have ho := psTwo h0 h1 hne
  have hi : i < (blks S L).length := by
    have : (blks S L)[i]? = some (blkOf S i y) := by rw [blks_get, hy]; rfl
    exact (List.getElem?_eq_some_iff.1 this).1
  have hb : ((blks S L).set i [])[i]? = some [] := by rw [List.getElem?_set, if_pos rfl, if_pos hi]
  have hob : okBlk i [(0, S.c0 (nm i 1) w), (1, S.c1 w)] := by rw [← blk_some S (i := i) hw]; exact okBlk_of i x
  have r2 : (S.c1 w).ren (unfB i [(q0, 0), (q1, 1)]) = S.c1 w := Row.ren_fix _ fun r hr => by
    obtain ⟨l, hl⟩ := hS.data1 w
    rw [hl, show rowsOfL (l.map PV.d) = [] from dl_rows l] at hr
    cases hr
  obtain ⟨φ', hr'⟩ := Sub.unfocusB (G := G) (N := N) (σ := σ) i [(q0, 0), (q1, 1)] ho hb hob (fun c y hm => by
    simp only [List.mem_cons, Prod.mk.injEq, List.not_mem_nil, or_false] at hm
    rcases hm with ⟨rfl, _⟩ | ⟨rfl, _⟩
    · exact ⟨q0, by simp⟩
    · exact ⟨q1, by simp⟩) hs hlow (fun q c hm => by
    simp only [List.mem_cons, Prod.mk.injEq, List.not_mem_nil, or_false] at hm
    rcases hm with ⟨rfl, rfl⟩ | ⟨rfl, rfl⟩
    · exact ⟨_, _, hq0, rfl, by rw [hS.ren0, unfB_at ho (q := q1) (c := 1) (by simp)]⟩
    · exact ⟨_, _, hq1, rfl, r2⟩) rfl he hd P B a w' φ hr
  have e1 : ((blks S L).set i []).set i [(0, S.c0 (nm i 1) w), (1, S.c1 w)] = blks S (L.set i x) := by
    rw [List.set_set, blks_set, blk_some S hw]
  rw [e1] at hr'
  refine Sub.same (fun r => ?_) P B a w' φ' hr'
  simp only [dynBH, hget_append, renTo_eq hl hall]
  rfl
theorem shN [hS : BN S] (i : Nat) {L : List α} (x : α) (l' : Heap) {l : Heap} (hw : S.wk x = none)
    (hs : σ.heap = dynBH ((blks S L).set i []) l := by rfl) (hl : l = l') : Sub G N σ ⟨σ.env, dynBH (blks S (L.set i x)) l', σ.dfr, σ.gh⟩ := by
  subst hl
  rw [blks_set, blk_none S hw]
  exact fun _ _ _ _ φ hr => ⟨φ, by rw [← hs]; exact hr⟩
theorem clB [hS : BN S] {L L' : List α} {c : Call} {f : FuncId} {xo : Operand} {caps args : List PV} {res : PV} {lH lH' lc : Heap} {Q : St → Prop} (gl : List (Nat × Nat)) (gs dr : List Nat)
    (hf : ObjFn P G f args (dynBH (blks S L) lH) res (dynBH (blks S L') lH')) (h2 : AOps P G ro N ops rest σ' Q)
    (hd : dstOk N o.dst := by (simp only [go_sem, ↓reduceIte]; done)) (hg : ∀ {K : St → Prop}, OpT P G ro N o σ K → vcOpC P G ro N (dsts ops) o σ K := by (intro K k; simp (disch := omega) only [go_sem, ↓reduceIte]; exact k))
    (hs : σ.heap = dynBH (blks S L) lc := by rfl) (hlH : lows lH := by (repeat' (first | exact trivial | decide | apply And.intro))) (hlH' : lows lH' := by (repeat' (first | exact trivial | decide | apply And.intro))) (hlc : lows lc := by (repeat' (first | exact trivial | decide | apply And.intro)))
    (hg1 : (gl.all fun p => decide (p.1 < 1000000)) = true := by rfl) (hg2 : (gl.all fun p => decide (p.2 < 1000000)) = true := by rfl)
    (ho : o.op = .call c := by rfl) (hc : c.callee = .value xo := by rfl) (hx : calleeV (σ.eval xo) = some (f, caps) := by rfl) (hcal : callable P f = true := by kernel_rfl)
    (hrow : handLU lc (renOf gl) (dynBH (blks S L) lH) lH := by (simp (disch := decide) only [handLU, Row.ren, nelB_renOf]; simp only [go_sem, ↓reduceIte]; (repeat' (first | exact trivial | exact rfl | exact nelB_refs (by (repeat' (first | exact trivial | decide | apply And.intro))) | exact dyBS rfl | (simp only [List.length_append, List.length_set, List.length_replicate, List.length_cons, List.length_nil, Nat.zero_add] <;> exact rfl) | apply And.intro))))
    (hinj : injL (renOf gl) lH := by (simp only [injL, injOne, go_sem, ↓reduceIte]; (repeat' (first | exact trivial | (intro h; cases h; done) | apply And.intro))))
    (hgs : givL (renOf gl) gs lH := by (simp only [givL, go_sem, ↓reduceIte]; (repeat' (first | exact trivial | exact rfl | apply And.intro))))
    (him : imgL (renOf gl) lH gs := by (repeat' (first | exact trivial | exact rfl | decide | apply And.intro))) (hgl : (gs.all fun p => decide (p < 1000000)) = true := by rfl)
    (henv : freeEnv gs (edrop dr σ.env) := by (repeat' (first | exact trivial | exact rfl | apply And.intro))) (henv2 : lowEnv (edrop dr σ.env) := by (repeat' (first | exact trivial | exact rfl | apply And.intro))) (hdfr : σ.dfr = [] := by rfl)
    (hout : freeHeap (renOf gl) lH gs lc := by (repeat' (first | exact trivial | exact .inl rfl | exact .inr rfl | exact .inr (by simp only [go_sem, List.any_nil]) | apply And.intro)))
    (hout2 : lowOut (renOf gl) lH lc := by (repeat' (first | exact trivial | exact .inl rfl | exact .inr rfl | exact .inr (by simp only [go_sem, List.all_nil]) | apply And.intro)))
    (ha : handsOk σ.heap (dynBH (blks S L) lH) (renOf gl) (evalL σ c.args.toList ++ caps) args := by (repeat' (first | exact trivial | exact rfl | exact dyBS rfl | apply And.intro | (simp only [go_sem, ↓reduceIte]; done))))
    (hback : backLN lH (renOf gl) gs lc (dynBH (blks S L') lH') lH' := by (simp only [backLN, go_sem, ↓reduceIte]; (repeat' (first | exact trivial | exact rfl | exact nelB_refs (by (repeat' (first | exact trivial | decide | apply And.intro))) | exact dyBS rfl | exact of_eq_true nelB_clean | exact .inl trivial | exact .inl rfl | exact .inr rfl | exact .inl (.inl rfl) | decide | apply And.intro))))
    (hall : allIn lH' lH := by (repeat' (first | exact trivial | exact rfl | apply And.intro))) (hinj2 : injL (renOf gl) lH' := by (simp only [injL, injOne, go_sem, ↓reduceIte]; (repeat' (first | exact trivial | (intro h; cases h; done) | apply And.intro))))
    (hp : ({ σ with env := edrop dr σ.env, heap := dynBH (blks S L') (hmerge (renOf gl) lH' (hdrop gs lc)) } : St).put o.dst (res.ren (renOf gl)) = σ' := by (simp (disch := decide) only [hmerge, Row.ren, nelB_renOf]; simp only [hdrop, edrop, List.contains_cons, List.contains_nil, beq_iff_eq, BEq.rfl, Nat.reduceBEq, Bool.or_false, Bool.false_or, Bool.true_or, Bool.or_true, Bool.false_eq_true, go_sem, ↓reduceIte]; rfl))
    (hcl : clean res := by (simp only [clean, cleanL, and_self]; done)) (hrf : refsIn (dynBH (blks S L') lH') res := by (first | exact trivial | exact rfl | exact dyBS rfl | (simp only [go_sem, ↓reduceIte]; done))) :
    AOps P G ro N ops (o :: rest) σ Q :=
  AOps.consC hd fun K hK => hg (OpT.callB gl gs dr hf hs hlH hlH' hlc hg1 hg2 hd ho hc hx hcal hrow hinj hgs him hgl henv henv2 hdfr hout hout2 ha hback hall hinj2 hcl hrf (hp ▸ hK _ h2))
end
end Go.Pv

namespace Go.Pv
def optB {α β : Type} : Option α → Option β → (α → Option β) → Option β
  | none, a, _ => a
  | some w, _, f => f w
theorem optB_case {α β : Type} {o : Option α} {a : Option β} {f : α → Option β} {r : β} (h : optB o a f = some r) : (o = none ∧ a = some r) ∨ ∃ w, o = some w ∧ f w = some r := by
  cases o with
  | none => exact .inl ⟨rfl, h⟩
  | some w => exact .inr ⟨w, rfl, h⟩
section
variable {G : List (Nat × PD)} {N : Nat} {σ : St}
theorem Sub.conv1 (s j : Nat) {x : Row} {p p' : PV} (hs : hget σ.heap s = some x) (hels : x.els[j]? = some p) (hpb : isByte p = false)
    (hval : ∀ (w : World) (X : Nat → Nat → Prop) (φ : Nm) (H : Heap) (v : Value), RepV w X φ H v p → RepV w X φ H v p') :
    Sub G N σ { env := σ.env, heap := hput σ.heap s { x with els := x.els.set j p' }, dfr := σ.dfr, gh := σ.gh } := by
  intro P B a w φ hrep
  have hgets : hget (hput σ.heap s { x with els := x.els.set j p' }) s = some { x with els := x.els.set j p' } := by
    rw [hget_hput]; simp
  have hgeto : ∀ t, t ≠ s → hget (hput σ.heap s { x with els := x.els.set j p' }) t = hget σ.heap t := fun t h2 => by
    rw [hget_hput, if_neg (Ne.symm h2)]
  obtain ⟨H2, hH2⟩ : ∃ H2, H2 = hput σ.heap s { x with els := x.els.set j p' } := ⟨_, rfl⟩
  rw [← hH2] at hgets hgeto ⊢
  have hback : ∀ t y, hget H2 t = some y → ∃ y', hget σ.heap t = some y' ∧ y.k = y'.k ∧ y.e = y'.e ∧ y.els.length = y'.els.length := fun t y h => by
    by_cases h2 : t = s
    · subst h2; rw [hgets] at h; cases h; exact ⟨x, hs, rfl, rfl, by simp⟩
    · rw [hgeto t h2] at h; exact ⟨y, h, rfl, rfl, rfl⟩
  have hrow : ∀ b, rowB φ H2 b → rowB φ σ.heap b := by
    rintro b ⟨t, y, h1, h2⟩
    obtain ⟨y', h3, _⟩ := hback t y h1
    exact ⟨t, y', h3, h2⟩
  have hown : ∀ b, own φ H2 b → own φ σ.heap b := fun b h => h.imp (hrow b) id
  have hext : Ext w B.X φ σ.heap w φ H2 := by
    refine ⟨fun t y h => ?_, fun b kk h => ⟨h.1, h.2.1, fun ho => h.2.2 (hown b ho)⟩, fun b kk h => ⟨h.1, fun ho => h.2 (hown b ho)⟩, fun _ kk _ => rfl, fun t y b _ _ c e f hh => ⟨c, e, f, hh, rfl⟩⟩
    by_cases ht : t = s
    · subst ht; rw [hs] at h; cases h
      exact ⟨_, hgets, rfl, fun _ => by simp, rfl⟩
    · exact ⟨y, (hgeto t ht).trans h, rfl, fun _ => rfl, rfl⟩
  have hval' : ∀ v, RepV w B.X φ σ.heap v p → RepV w B.X φ H2 v p' := fun v hv => hval _ _ _ _ v (hv.ext hext)
  refine ⟨φ, Rep.of_sit ⟨⟨fun t y b ht hb => ?_, fun t y ht hb => ?_, fun t u y z b ht hu hb hb' => ?_, fun b hT => ⟨(hrep.heap.far b hT).1, (hrep.heap.far b hT).2.1, fun h => (hrep.heap.far b hT).2.2 (hrow b h)⟩⟩, hrep.keeps, fun t y b ht hb => ?_, fun t y ht hp' => ?_, fun t y b ht hp' hb => ?_, ?_, hrep.tnew, J_step (w := w) (φ := φ) (H := σ.heap) hrep.inv rfl rfl rfl rfl (Nat.le_refl _) (fun _ _ _ => rfl) (fun b hb => .inl (hrow b hb))⟩ hrep.size (fun t => (hrep.env t).ext hext) (hrep.dfr.ext hext)⟩
  · by_cases h : t = s
    · subst h; rw [hgets] at ht; cases ht
      refine (hrep.heap.rows t x b hs hb).turn rfl rfl (by simp) (fun _ _ h => h) (hrep.heap.rows t x b hs hb).free (fun m hm hm' v hv => ?_) fun z hz => hz.set (hz.past hels hpb) p'
      by_cases hjm : j = m
      · subst hjm
        have e1 : x.els[j] = p := (List.getElem?_eq_some_iff.1 hels).2
        rw [e1] at hv
        simpa using hval' v hv
      · have e1 : (x.els.set j p')[m] = x.els[m] := List.getElem_set_ne hjm _
        rw [e1]; exact hv.ext hext
    · rw [hgeto t h] at ht
      exact (hrep.heap.rows t y b ht hb).ext hext rfl
  · obtain ⟨y', h1, _, _, h4⟩ := hback t y ht
    have := hrep.heap.void t y' h1 hb
    rw [this] at h4
    exact List.eq_nil_of_length_eq_zero h4
  · obtain ⟨y', h1, _⟩ := hback t y ht
    obtain ⟨z', h2, _⟩ := hback u z hu
    exact hrep.heap.inj t u y' z' b h1 h2 hb hb'
  · obtain ⟨y', h1, _⟩ := hback t y ht
    exact hrep.new t y' b h1 hb
  · obtain ⟨y', h1, _⟩ := hback t y ht
    exact hrep.pins t y' h1 hp'
  · obtain ⟨y', h1, _⟩ := hback t y ht
    exact hrep.psz t y' b h1 hp' hb
  · exact hrep.glob.ext hext (fun g x hm => by obtain ⟨_, _, _, _, _, h2, _⟩ := hrep.glob g x hm; exact fun ho => h2 (hown g ho))
theorem agg_of {w : World} {X : Nat → Nat → Prop} {φ : Nm} {H : Heap} {v : Value} {p : PV} {cs : List PV} (hp : isAggPV p = true) (hcs : pvCells p = some cs) (hv : RepV w X φ H v p) : RepV w X φ H v (.agg cs) := by
  obtain ⟨vs, rfl⟩ := RepV.agg_of hp hv
  have h1 := pvCells_ok hcs hv
  exact .agg h1.size h1.rep h1.flat
theorem dynB_app (b : Block) : ∀ (M : List Block) (i : Nat), dynB i (M ++ [b]) = dynB i M ++ blkGo (i + M.length) b
  | [], i => by simp [dynB]
  | a :: M, i => by
    simp only [List.cons_append, dynB, dynB_app b M (i + 1), List.append_assoc, List.length_cons]
    rw [show i + 1 + M.length = i + (M.length + 1) by omega]
theorem blks_snoc {α ω : Type} (S : BS α ω) (L : List α) (x : α) (h : S.wk x = none) (l : Heap) : dynBH (blks S (L ++ [x])) l = dynBH (blks S L) l := by
  have e : ∀ (L : List α) (i : Nat), blksGo S i (L ++ [x]) = blksGo S i L ++ [[]] := fun L => by
    induction L with
    | nil => intro i; simp [blksGo, blk_none S h]
    | cons y L ih => intro i; simp [blksGo, ih]
  unfold dynBH blks
  rw [e, dynB_app]
  simp [blkGo]
theorem pshB {α ω : Type} {S : BS α ω} [hS : BN S] (R : Nat) {L : List α} (x : α) (l' : Heap) {l : Heap} {e k : Nat} {p : PV} (hw : S.wk x = none)
    (hs : σ.heap = dynBH (blks S L) l := by rfl) (hR1 : R < 1000000 := by decide) (hR : hget l R = some ⟨e, k, nelB S L ++ [p]⟩ := by rfl) (hpb : isByte p = false := by rfl) (hp : isAggPV p = true := by rfl) {cs : List PV} (hcs : pvCells p = some cs := by rfl) (hF : PV.agg cs = S.F (.d .nilptr) x := by rfl)
    (hl : hput l R ⟨e, k, nelB S (L ++ [x])⟩ = l') : Sub G N σ ⟨σ.env, dynBH (blks S (L ++ [x])) l', σ.dfr, σ.gh⟩ := by
  subst hl
  have hR' : hget σ.heap R = some ⟨e, k, nelB S L ++ [p]⟩ := by rw [hs, hget_dynBH hR1]; exact hR
  have h := Sub.conv1 (G := G) (N := N) (σ := σ) R L.length (p := p) (p' := .agg cs) hR' (by simp [List.getElem?_append, nelB_length]) hpb fun w X φ H v hv => agg_of hp hcs hv
  have e0 : (nelB S L ++ [p]).set L.length (.agg cs) = nelB S (L ++ [x]) := by
    rw [hF, ← ptrB_none S (i := L.length) hw]
    have h1 : (nelB S L ++ [p]).set L.length (S.F (ptrB S L.length x) x) = nelB S L ++ [S.F (ptrB S L.length x) x] := by
      rw [List.set_append]; simp [nelB_length]
    rw [h1]; exact nels_push _ L x
  simp only [e0] at h
  rw [blks_snoc S L x hw, ← hput_dynBH hR1, ← hs]
  exact h
end
section
variable {P : Program} {G : List (Nat × PD)} {ro : Option Nat} {N : Nat} {ops : Array Oper} {σ : St}
theorem ctH {l l1 l2 : List Oper} {Q : St → Prop} {e0 : List (Nat × PV)} {h0 : Heap} (n : Nat) (ks rs : List Nat) (e : List (Nat × PV) → List (Nat × PV)) (H : Heap → Heap)
    (h1 : AOps P G ro N ops l1 σ (fun σ' => Sub G N σ' ⟨e e0, H h0, σ.dfr, σ.gh⟩)) (h2 : AOps P G ro N ops l2 ⟨e e0, H h0, σ.dfr, σ.gh⟩ Q)
    (he : kenv ks σ.env = e0 := by (simp only [kenv, eget, ↓reduceIte, Nat.reduceEqDiff]; rfl)) (hh : kheap rs σ.heap = h0 := by (simp only [kheap, hget, hget_dynBH, ↓reduceIte, Nat.reduceEqDiff, Nat.reduceLT]; rfl))
    (hl1 : l.take n = l1 := by (simp only [List.take_succ_cons, List.take_zero]; rfl)) (hl2 : l.drop n = l2 := by (simp only [List.drop_succ_cons, List.drop_zero]; rfl)) : AOps P G ro N ops l σ Q := by
  subst hl1 hl2 he hh; exact AOps.cut n _ h1 h2
end
end Go.Pv

namespace Go.Pv
section
variable {G : List (Nat × PD)} {N : Nat} {σ : St}
theorem shND {α ω : Type} {S : BS α ω} [hS : BN S] (R i : Nat) {L : List α} (x : α) (l' : Heap) {y : α} (hy : L[i]? = some y) {l : Heap} {e k : Nat} {p : PV} (hw : S.wk x = none := by rfl)
    (hs : σ.heap = dynBH ((blks S L).set i []) l := by rfl) (hR1 : R < 1000000 := by decide) (hR : hget l R = some ⟨e, k, (nelB S L).set i p⟩ := by rfl) (hpb : isByte p = false := by rfl) (hp : isAggPV p = true := by rfl) {cs : List PV} (hcs : pvCells p = some cs := by rfl) (hF : PV.agg cs = S.F (.d .nilptr) x := by rfl)
    (hl : hput l R ⟨e, k, nelB S (L.set i x)⟩ = l' := by rfl) : Sub G N σ ⟨σ.env, dynBH (blks S (L.set i x)) l', σ.dfr, σ.gh⟩ := by
  subst hl
  have hR' : hget σ.heap R = some ⟨e, k, (nelB S L).set i p⟩ := by rw [hs, hget_dynBH hR1]; exact hR
  have h := Sub.conv1 (G := G) (N := N) (σ := σ) R i (p := p) (p' := .agg cs) hR' (nelB_hole hy p) hpb fun w X φ H v hv => agg_of hp hcs hv
  have e0 : ((nelB S L).set i p).set i (.agg cs) = nelB S (L.set i x) := by
    rw [List.set_set]
    exact nelB_set (.agg cs) (by rw [hF, ptrB_none S hw])
  simp only [e0] at h
  rw [blks_set, blk_none S hw, ← hput_dynBH hR1, ← hs]
  exact h
end
end Go.Pv

namespace Go.Pv
theorem nil_test_row {P : Program} {w : World} {X : Nat → Nat → Prop} {φ : Nm} {H : Heap} {t e : TypeId} {y : Ty} {r lo n : Nat} {v : Value} (ht : tyOf P t = some y) (hde : y.desc = .slice e) (hv : RepV w X φ H v (.slc r lo n)) (x z : Operand) :
    ∃ b, (do eqGuard .eql t x z v (.slice none 0 0); Go.binOp .eql t v (.slice none 0 0) : Sem Value).run P w = .ok (.bool b) w ∧ (b = true → n = 0) := by
  have heq : ∀ u b, (∀ d, (Op.equalIn (d + 1) t u (.slice none 0 0)).run P w = .ok b w) → (Op.equal t u (.slice none 0 0)).run P w = .ok b w := fun u b h => h 9999
  have hb : ∃ b, (Op.equal t v (.slice none 0 0)).run P w = .ok b w ∧ (b = true → n = 0) := by
    cases hv with
    | slc =>
      refine ⟨false, heq _ _ fun d => ?_, fun h => by cases h⟩
      unfold Op.equalIn
      rw [Sem.run_bind, run_tyUnder ht, hde]; rfl
    | @slc0 _ _ p =>
      cases p with
      | none =>
        refine ⟨true, heq _ _ fun d => ?_, fun _ => rfl⟩
        unfold Op.equalIn
        rw [Sem.run_bind, run_tyUnder ht, hde]; rfl
      | some a =>
        refine ⟨false, heq _ _ fun d => ?_, fun h => by cases h⟩
        unfold Op.equalIn
        rw [Sem.run_bind, run_tyUnder ht, hde]; rfl
  obtain ⟨b, h1, h2⟩ := hb
  refine ⟨b, ?_, h2⟩
  have hg : (eqGuard .eql t x z v (.slice none 0 0)).run P w = .ok () w := by
    refine eqGuard_none (.inr (by simp)) (.inr (by simp))
  have h3 : Go.binOp .eql t v (.slice none 0 0) = (do Pure.pure (.bool (← Op.equal t v (.slice none 0 0))) : Sem Value) := by
    cases hv <;> rfl
  rw [Sem.run_bind, hg, h3]
  simp only [Result.andThen]
  rw [Sem.run_bind, h1]; rfl
section
variable {P : Program} {G : List (Nat × PD)} {ro : Option Nat} {N : Nat} {ops : Array Oper} {σ σ' : St} {o : Oper} {rest : List Oper} {K : St → Prop}
theorem OpT.nilRow {x : Operand} {t t' e : TypeId} {y : Ty} {r lo n : Nat} (ho : o.op = .binOp .eql t x (.const (.slice none 0 0)) t') (ht : tyOf P t = some y) (hde : y.desc = .slice e) (hx : σ.eval x = .slc r lo n) (hd : dstOk N o.dst)
    (h1 : n = 0 → K (σ.put o.dst (.d (.bool true)))) (h2 : K (σ.put o.dst (.d (.bool false)))) : OpT P G ro N o σ K := by
  intro B hro a w φ hr next Q hnx
  have hv := hr.eval x
  rw [hx] at hv
  obtain ⟨b, h3, h4⟩ := nil_test_row ht hde hv x (.const (.slice none 0 0))
  have hop : (o.semAt ro a.eval).run P w = .ok (.value (.bool b)) w := by
    rw [Oper.semAt_eq _ _ _ (fun c hc => by rw [ho] at hc; cases hc)]
    simp only [execOp, ho]
    exact run_v h3
  refine wpIn_value hop (hnx _ _ _ φ ?_ (hr.put hd (.d (.bool b))))
  cases b with
  | true => exact h1 (h4 rfl)
  | false => exact h2
theorem ntR {x : Operand} {t t' e : TypeId} {y : Ty} {r lo n : Nat} {Q : St → Prop} (ht : tyOf P t = some y) (hde : y.desc = .slice e) (h1 : n = 0 → AOps P G ro N ops rest (σ.put o.dst (.d (.bool true))) Q) (h2 : AOps P G ro N ops rest (σ.put o.dst (.d (.bool false))) Q)
    (hd : dstOk N o.dst := by (simp only [go_sem, ↓reduceIte]; done)) (hg : ∀ {K : St → Prop}, OpT P G ro N o σ K → vcOpC P G ro N (dsts ops) o σ K := by (intro K k; simp (disch := omega) only [go_sem, ↓reduceIte]; exact k))
    (ho : o.op = .binOp .eql t x (.const (.slice none 0 0)) t' := by rfl) (hx : σ.eval x = .slc r lo n := by rfl) : AOps P G ro N ops (o :: rest) σ Q :=
  AOps.consC hd fun _ hK => hg (OpT.nilRow ho ht hde hx hd (fun he => hK _ (h1 he)) (hK _ h2))
mutual
def cutIn (r m : Nat) : PV → Prop
  | .slc s lo n => s = r → lo + n ≤ m
  | .func _ l => cutInL r m l
  | .agg l => cutInL r m l
  | .tuple l => cutInL r m l
  | _ => True
def cutInL (r m : Nat) : List PV → Prop
  | [] => True
  | p :: l => cutIn r m p ∧ cutInL r m l
end
theorem cutInL_get {r m : Nat} : ∀ {l : List PV}, cutInL r m l → ∀ i (hi : i < l.length), cutIn r m l[i]
  | p :: l, h, 0, _ => h.1
  | p :: l, h, i + 1, hi => cutInL_get h.2 i (by simpa using hi)
mutual
theorem cutIn_free {r m : Nat} : ∀ p : PV, r ∉ rowsOf p → cutIn r m p
  | .slc s lo n, h => fun e => absurd (by rw [e]; simp [rowsOf]) h
  | .func _ l, h => by simp only [cutIn]; exact cutInL_free l (by simpa [rowsOf] using h)
  | .agg l, h => by simp only [cutIn]; exact cutInL_free l (by simpa [rowsOf] using h)
  | .tuple l, h => by simp only [cutIn]; exact cutInL_free l (by simpa [rowsOf] using h)
  | .any, _ | .d _, _ | .b _, _ | .dptr .., _ | .bptr .., _ | .glob _, _ | .val _, _ | .ptr .., _ | .mp _, _ => by simp only [cutIn]
theorem cutInL_free {r m : Nat} : ∀ l : List PV, r ∉ rowsOfL l → cutInL r m l
  | [], _ => by simp only [cutInL]
  | p :: l, h => by
    simp only [rowsOfL, List.mem_append, not_or] at h
    exact ⟨cutIn_free p h.1, cutInL_free l h.2⟩
end
def cutEnv (r m : Nat) : List (Nat × PV) → Prop
  | [] => True
  | (_, v) :: l => cutIn r m v ∧ cutEnv r m l
def cutHeap (r m : Nat) : Heap → Prop
  | [] => True
  | (_, x) :: l => cutInL r m x.els ∧ cutHeap r m l
theorem cutEnv_get {r m : Nat} : ∀ {l : List (Nat × PV)}, cutEnv r m l → ∀ t, cutIn r m (eget l t)
  | [], _, t => by simp only [eget, cutIn]
  | (s, v) :: l, h, t => by
    simp only [eget]
    split
    · exact h.1
    · exact cutEnv_get h.2 t
theorem cutHeap_get {r m : Nat} : ∀ {l : Heap}, cutHeap r m l → ∀ s x, hget l s = some x → cutInL r m x.els
  | (t, y) :: l, h, s, x, hx => by
    simp only [hget] at hx
    split at hx
    · cases hx; exact h.1
    · exact cutHeap_get h.2 s x hx
theorem cutHeap_append {r m : Nat} : ∀ {a b : Heap}, cutHeap r m a → cutHeap r m b → cutHeap r m (a ++ b)
  | [], _, _, hb => hb
  | (_, _) :: a, _, ha, hb => ⟨ha.1, cutHeap_append (a := a) ha.2 hb⟩
theorem cutHeap_each {r m : Nat} : ∀ {D : Heap}, (∀ s y, (s, y) ∈ D → cutInL r m y.els) → cutHeap r m D
  | [], _ => trivial
  | (s, y) :: D, hD => ⟨hD s y (List.mem_cons_self ..), cutHeap_each fun s y hm => hD s y (List.mem_cons_of_mem _ hm)⟩
theorem cutHeap_dynBH {r m : Nat} {M : List Block} [hM : BlksOk M] {l : Heap} (hr : r < 1000000) (h : cutHeap r m l) : cutHeap r m (dynBH M l) := by
  refine cutHeap_append (cutHeap_each fun s y hm => cutInL_free _ fun hc => ?_) h
  have := (dynB_rows hm).2 r hc
  omega
theorem cutL_dl (r m : Nat) (l : List PD) : cutInL r m (dl l) := cutInL_free _ (by rw [dl_rows]; exact List.not_mem_nil)
theorem cutL_nelB {α ω : Type} {S : BS α ω} [BN S] {r m : Nat} {L : List α} (hr : r < 1000000) : cutInL r m (nelB S L) := cutInL_free _ fun h => by have := nelB_rows h; omega
theorem cutL_nelB_hole {α ω : Type} {S : BS α ω} [BN S] {r m i : Nat} {L : List α} {p : PV} (hr : r < 1000000) (hp : (rowsOf p).contains r = false) : cutInL r m ((nelB S L).set i p) := cutInL_free _ (nelB_notin_hole hr hp)
theorem Sub.shrink (r m : Nat) {x : Row} (hx : hget σ.heap r = some x) (hk : 1 ≤ x.k) (hm : m ≤ x.els.length) (hnb : ∀ p ∈ x.els, isByte p = false) (hr1 : 1000 ≤ r) (henv : cutEnv r m σ.env) (hheap : cutHeap r m σ.heap) (hd : σ.dfr = []) :
    Sub G N σ { env := σ.env, heap := hput σ.heap r { x with els := x.els.take m }, dfr := σ.dfr, gh := σ.gh } := by
  intro P B a w φ hrep
  obtain ⟨H2, hH2⟩ : ∃ H2, H2 = hput σ.heap r { x with els := x.els.take m } := ⟨_, rfl⟩
  have hgetr : hget H2 r = some { x with els := x.els.take m } := by rw [hH2, hget_hput]; simp
  have hgeto : ∀ t, t ≠ r → hget H2 t = hget σ.heap t := fun t h2 => by rw [hH2, hget_hput, if_neg (Ne.symm h2)]
  rw [← hH2]
  have hback : ∀ t y, hget H2 t = some y → ∃ y', hget σ.heap t = some y' ∧ y.k = y'.k ∧ y.e = y'.e := fun t y h => by
    by_cases h2 : t = r
    · subst h2; rw [hgetr] at h; cases h; exact ⟨x, hx, rfl, rfl⟩
    · rw [hgeto t h2] at h; exact ⟨y, h, rfl, rfl⟩
  have hfwd : ∀ t y, hget σ.heap t = some y → ∃ y', hget H2 t = some y' ∧ y'.k = y.k := fun t y h => by
    by_cases h2 : t = r
    · subst h2; rw [hx] at h; cases h; exact ⟨_, hgetr, rfl⟩
    · exact ⟨y, (hgeto t h2).trans h, rfl⟩
  have hrow : ∀ b, rowB φ H2 b ↔ rowB φ σ.heap b := fun b => ⟨fun ⟨t, y, h1, h2⟩ => let ⟨y', h3, _⟩ := hback t y h1; ⟨t, y', h3, h2⟩, fun ⟨t, y, h1, h2⟩ => let ⟨y', h3, _⟩ := hfwd t y h1; ⟨t, y', h3, h2⟩⟩
  have hown : ∀ b, own φ H2 b ↔ own φ σ.heap b := fun b => or_congr (hrow b) Iff.rfl
  have okd' : ∀ b kk, okd w B.X φ σ.heap b kk → okd w B.X φ H2 b kk := fun b kk h => ⟨h.1, h.2.1, fun ho => h.2.2 ((hown b).1 ho)⟩
  have okb' : ∀ b kk, okb w φ σ.heap b kk → okb w φ H2 b kk := fun b kk h => ⟨h.1, fun ho => h.2 ((hown b).1 ho)⟩
  have key : ∀ v p, RepV w B.X φ σ.heap v p → cutIn r m p → RepV w B.X φ H2 v p := by
    intro v p hv
    induction hv with
    | any v => intro _; exact .any v
    | d hd => intro _; exact .d (hd.mono okd' (fun _ _ _ => rfl))
    | b hd => intro _; exact .b (hd.mono okb' (fun _ _ _ => rfl))
    | ptr h1 hb hk =>
      intro _
      obtain ⟨y', h3, h4⟩ := hfwd _ _ h1
      rw [← h4]; exact .ptr h3 hb (h4 ▸ hk)
    | dptr hd hi => intro _; exact .dptr (hd.mono okd' (fun _ _ _ => rfl)) hi
    | bptr hd hi => intro _; exact .bptr (hd.mono okb' (fun _ _ _ => rfl)) hi
    | glob g => intro _; exact .glob g
    | val h => intro _; exact .val h
    | @slc s lo n cap b y h1 hb hk hn hc hl hz =>
      intro hcut
      by_cases hs : s = r
      · subst hs
        rw [hx] at h1; cases h1
        have := hcut rfl
        have hlen : (x.els.take m).length = m := by rw [List.length_take]; omega
        exact RepV.slc (x := { x with els := x.els.take m }) hgetr hb hk (by show lo + n ≤ (x.els.take m).length; omega) hc (by show (x.els.take m).length ≤ lo + cap; omega) hz
      · exact .slc ((hgeto s hs).trans h1) hb hk hn hc hl hz
    | @slc0 s y p h1 hb hk hp =>
      intro _
      obtain ⟨y', h3, h4⟩ := hfwd _ _ h1
      exact .slc0 h3 hb (h4 ▸ hk) hp
    | mp h1 hb hk =>
      intro _
      obtain ⟨y', h3, h4⟩ := hfwd _ _ h1
      exact .mp h3 hb (h4.trans hk)
    | func hs _ ih => intro hc; simp only [cutIn] at hc; exact .func hs fun i hi => ih i hi (cutInL_get hc i hi)
    | agg hs _ hf ih => intro hc; simp only [cutIn] at hc; exact .agg hs (fun i hi => ih i hi (cutInL_get hc i hi)) hf
    | tuple hs _ ih => intro hc; simp only [cutIn] at hc; exact .tuple hs fun i hi => ih i hi (cutInL_get hc i hi)
  refine ⟨φ, Rep.of_sit ⟨⟨fun t y b ht hb => ?_, fun t y ht hb => ?_, fun t u y z b ht hu hb hb' => ?_, fun b hT => ⟨(hrep.heap.far b hT).1, (hrep.heap.far b hT).2.1, fun h => (hrep.heap.far b hT).2.2 ((hrow b).1 h)⟩⟩, hrep.keeps, fun t y b ht hb => ?_, fun t y ht hp' => ?_, fun t y b ht hp' hb => ?_, ?_, hrep.tnew, J_step (w := w) (φ := φ) (H := σ.heap) hrep.inv rfl rfl rfl rfl (Nat.le_refl _) (fun _ _ _ => rfl) (fun b hb => .inl ((hrow b).1 hb))⟩ hrep.size (fun t => key _ _ (hrep.env t) (cutEnv_get henv t)) ?_⟩
  · by_cases h : t = r
    · subst h; rw [hgetr] at ht; cases ht
      have ho := hrep.heap.rows t x b hx hb
      refine ⟨fun _ => ?_, fun h0 => by have : x.k = 0 := h0; omega, ho.free⟩
      obtain ⟨c, C, z, h1, ⟨h2, h3, h4⟩, h5, h6⟩ := ho.here hk
      refine ⟨c, C, z, h1, ⟨h2, by simp; omega, h4⟩, fun i hi => ?_, ?_⟩
      · have hi' : i < m ∧ i < x.els.length := by
          have h0 : i < min m x.els.length := by simpa using hi
          omega
        obtain ⟨v, h7, h8, h9⟩ := h5 i hi'.2
        have e : (x.els.take m)[i]'(by simpa using hi) = x.els[i] := by simp
        refine ⟨v, ?_, h8, h9⟩
        show RepV w B.X φ H2 v ((x.els.take m)[i]'(by simpa using hi))
        rw [e]
        exact key _ _ h7 (cutInL_get (cutHeap_get hheap t x hx) i hi'.2)
      · have := h6.zero_of hnb
        subst this; exact .zero _
    · rw [hgeto t h] at ht
      have ho := hrep.heap.rows t y b ht hb
      refine ⟨fun hk' => ?_, fun h0 => ?_, ho.free⟩
      · obtain ⟨c, C, z, h1, h2, h5, h6⟩ := ho.here hk'
        exact ⟨c, C, z, h1, h2, fun i hi => let ⟨v, h7, h8⟩ := h5 i hi; ⟨v, key _ _ h7 (cutInL_get (cutHeap_get hheap t y ht) i hi), h8⟩, h6⟩
      · obtain ⟨es, clock, h1, h2, h3⟩ := ho.map h0
        exact ⟨es, clock, h1, h2, fun i hi => key _ _ (h3 i hi) (cutInL_get (cutHeap_get hheap t y ht) i hi)⟩
  · by_cases h : t = r
    · subst h; rw [hgetr] at ht; cases ht
      have := hrep.heap.void t x hx hb
      show x.els.take m = []
      rw [this]; simp
    · rw [hgeto t h] at ht
      exact hrep.heap.void t y ht hb
  · obtain ⟨y', h1, _⟩ := hback t y ht
    obtain ⟨z', h2, _⟩ := hback u z hu
    exact hrep.heap.inj t u y' z' b h1 h2 hb hb'
  · obtain ⟨y', h1, _⟩ := hback t y ht
    exact hrep.new t y' b h1 hb
  · obtain ⟨y', h1, _⟩ := hback t y ht
    exact hrep.pins t y' h1 hp'
  · obtain ⟨y', h1, _⟩ := hback t y ht
    exact hrep.psz t y' b h1 hp' hb
  · intro g z hm
    obtain ⟨c, e, f, v, h1, h2, h3, h4⟩ := hrep.glob g z hm
    exact ⟨c, e, f, v, h1, fun ho => h2 ((hown g).1 ho), h3.mono okd' (fun _ _ _ => rfl), h4⟩
  · have h := hrep.dfr.map (f := id) (φ' := φ) (X' := B.X) (H' := H2) (fun D h => ⟨okd' D 0 h, rfl⟩) (fun p hp => by rw [hd] at hp; cases hp)
    simpa using h
theorem shr {α : Type} (r : Nat) {e k : Nat} {f : α → PD} {L : List α} (L' : List α) (he : (dl (lenc f L)).take L'.length = dl (lenc f L')) (hx : hget σ.heap r = some ⟨e, k, dl (lenc f L)⟩ := by first | rfl | exact dyBR rfl) (hnb : ∀ p ∈ dl (lenc f L), isByte p = false) (hm : L'.length ≤ L.length) (hk : 1 ≤ k := by decide) (hr1 : 1000 ≤ r := by decide)
    (henv : cutEnv r L'.length σ.env := by (repeat' (first | exact trivial | exact fun h => absurd h (by decide) | exact fun _ => (by simp only [Nat.zero_add, Nat.le_refl]) | apply And.intro)))
    (hheap : cutHeap r L'.length σ.heap := by (repeat' (first | exact trivial | refine cutHeap_dynBH (by decide) ?_ | exact cutL_dl _ _ _ | exact cutL_nelB (by decide) | exact cutL_nelB_hole (by decide) rfl | exact fun h => absurd h (by decide) | exact fun _ => (by simp only [Nat.zero_add, Nat.le_refl]) | apply And.intro)))
    (hd : σ.dfr = [] := by rfl) {h' : Heap} (hh : hput σ.heap r ⟨e, k, dl (lenc f L')⟩ = h' := by (simp (disch := decide) only [hput_dynBH, hput, ↓reduceIte, Nat.reduceEqDiff]; rfl)) :
    Sub G N σ { env := σ.env, heap := h', dfr := σ.dfr, gh := σ.gh } := by
  subst hh
  have h := Sub.shrink (G := G) (N := N) r L'.length hx hk (by simpa [dl, lenc] using hm) hnb hr1 henv hheap hd
  rw [show ({ (⟨e, k, dl (lenc f L)⟩ : Row) with els := (dl (lenc f L)).take L'.length } : Row) = ⟨e, k, dl (lenc f L')⟩ by rw [← he]] at h
  exact h
theorem OpT.lend {c : Call} {f : FuncId} {xo : Operand} {x : Row} {n : Nat} (r q : Nat) (hf : ObjFn P G f [.slc 0 0 n] [(0, x)] (.slc 1000 0 n) [(0, x), (1000, x)]) (ho : o.op = .call c) (hc : c.callee = .value xo) (hx : calleeV (σ.eval xo) = some (f, [])) (hcal : callable P f = true) (hd : dstOk N o.dst)
    (hrow : hget σ.heap r = some x) (hq : hget σ.heap q = none) (hq0 : 1000 ≤ q) (hfree : rowsOfL x.els = []) (hcl : cleanL x.els) (ha : evalL σ c.args.toList = [.slc r 0 n]) (hK : K (({ σ with heap := hput σ.heap q x } : St).put o.dst (.slc q 0 n))) : OpT P G ro N o σ K := by
  have hren : ∀ ρ : Nat → Nat, x.ren ρ = x := fun ρ => Row.ren_fix x fun s hs => by rw [hfree] at hs; cases hs
  have hrefs : ∀ H : Heap, refsInL H x.els := fun H => refsInL_of fun s hs => by rw [hfree] at hs; cases hs
  have hrq : r ≠ q := fun e => by rw [e, hq] at hrow; cases hrow
  have h1 : ∀ s y, hget [(0, x)] s = some y → s = 0 ∧ y = x := fun s y h => by
    simp only [hget] at h
    split at h
    · rename_i e; cases h; exact ⟨e.symm, rfl⟩
    · cases h
  have h2 : ∀ s y, hget [(0, x), (1000, x)] s = some y → (s = 0 ∨ s = 1000) ∧ y = x := fun s y h => by
    simp only [hget] at h
    split at h
    · rename_i e; cases h; exact ⟨.inl e.symm, rfl⟩
    · split at h
      · rename_i e; cases h; exact ⟨.inr e.symm, rfl⟩
      · cases h
  refine OpT.relook (σ' := ({ σ with heap := hput σ.heap q x } : St).put o.dst (.slc q 0 n)) ?_ hK
  refine OpT.callU2 [] (H := [(0, x)]) (g := fun _ => r) (gs := []) ho hc hx hcal hf
    ⟨⟨fun s y h => ?_, fun s t y z h h' _ => ?_, fun s y h => ?_⟩, fun s y h hs => ?_, fun _ _ _ _ => List.not_mem_nil, fun s h => (by cases h), fun s h => (by cases h), fun s h => (by cases h), fun s h => (by cases h), fun s h => (by cases h)⟩ ?_ hd ?_
  · obtain ⟨rfl, rfl⟩ := h1 s y h
    rw [hren]; exact hrow
  · rw [(h1 s y h).1, (h1 t z h').1]
  · obtain ⟨rfl, rfl⟩ := h1 s y h
    exact hrefs _
  · rw [(h1 s y h).1] at hs; omega
  · rw [ha, List.append_nil]
    exact ⟨⟨by rfl, rfl⟩, trivial⟩
  · rintro p H' ⟨rfl, rfl⟩
    refine ⟨fun s => if s = 0 then r else q, ⟨fun s y h hs => ?_, fun s y h hs => ?_, fun s y h hs => ?_, fun s t y z h h' e => ?_, fun s y h => ?_⟩, trivial, rfl, ?_⟩
    · rcases (h2 s y h).1 with rfl | rfl
      · exact ⟨x, rfl, rfl, by rw [(h2 _ y h).2], fun _ => by rw [(h2 _ y h).2]⟩
      · omega
    · obtain ⟨rfl, rfl⟩ := h1 s y h
      exact ⟨y, rfl⟩
    · rcases (h2 s y h).1 with rfl | rfl
      · omega
      · exact ⟨.inl hq, hq0⟩
    · rcases (h2 s y h).1 with rfl | rfl <;> rcases (h2 t z h').1 with rfl | rfl
      · rfl
      · exact absurd e hrq
      · exact absurd e.symm hrq
      · rfl
    · rw [(h2 s y h).2]; exact ⟨hrefs _, hcl⟩
    · have hgs : ∀ s, hget (hmerge (fun s => if s = 0 then r else q) [(0, x), (1000, x)] (hdrop [] σ.heap)) s = hget (hput σ.heap q x) s := fun s => by
        simp only [hmerge, hren, hget_hput, hget_hdrop, if_true, List.not_mem_nil, if_false]
        by_cases e1 : r = s
        · subst e1
          rw [if_pos rfl, if_neg (Ne.symm hrq), hrow]
        · rw [if_neg e1]
          rfl
      have henv : (edrop [] σ.env) = σ.env := by
        have : ∀ l : List (Nat × PV), edrop [] l = l := fun l => by
          induction l with
          | nil => rfl
          | cons a l ih => obtain ⟨t, v⟩ := a; simp [edrop, ih]
        exact this _
      refine ⟨?_, by rw [St.put_rest, St.put_rest]; rfl⟩
      funext key
      cases key with
      | t t => cases hdst : o.dst <;> simp [St.look, St.put, henv, PV.ren]
      | h s =>
        have := hgs s
        cases hdst : o.dst <;> simp [St.look, St.put, this]
theorem clL {c : Call} {f : FuncId} {xo : Operand} {e k n : Nat} {l : List PD} {Q : St → Prop} (r q : Nat) (hf : ObjFn P G f [.slc 0 0 n] [(0, ⟨e, k, dl l⟩)] (.slc 1000 0 n) [(0, ⟨e, k, dl l⟩), (1000, ⟨e, k, dl l⟩)]) (h2 : AOps P G ro N ops rest σ' Q)
    (hd : dstOk N o.dst := by (simp only [go_sem, ↓reduceIte]; done)) (hg : ∀ {K : St → Prop}, OpT P G ro N o σ K → vcOpC P G ro N (dsts ops) o σ K := by (intro K k; simp (disch := omega) only [go_sem, ↓reduceIte]; exact k))
    (ho : o.op = .call c := by rfl) (hc : c.callee = .value xo := by rfl) (hx : calleeV (σ.eval xo) = some (f, []) := by rfl) (hcal : callable P f = true := by kernel_rfl)
    (hrow : hget σ.heap r = some ⟨e, k, dl l⟩ := by first | rfl | exact dyBR rfl) (hq : hget σ.heap q = none := by first | rfl | exact dyBR rfl) (hq0 : 1000 ≤ q := by decide) (ha : evalL σ c.args.toList = [.slc r 0 n] := by first | rfl | (simp only [go_sem, List.length_append, List.length_set, List.length_replicate, ↓reduceIte]; rfl))
    (hp : ({ σ with heap := hput σ.heap q ⟨e, k, dl l⟩ } : St).put o.dst (.slc q 0 n) = σ' := by (simp (disch := decide) only [go_sem, hput_dynBH, ↓reduceIte]; rfl)) : AOps P G ro N ops (o :: rest) σ Q :=
  AOps.consC hd fun K hK => hg (OpT.lend r q hf ho hc hx hcal hd hrow hq hq0 (dl_rows l) (cleanL_dl l) ha (hp ▸ hK _ h2))
end
end Go.Pv

namespace Go.Pv
def eforget : List Nat → List (Nat × PV) → List (Nat × PV)
  | [], l => l
  | t :: ts, l => eput (eforget ts l) t .any
theorem eget_eforget (tk : List Nat) (l : List (Nat × PV)) (t : Nat) : eget (eforget tk l) t = if t ∈ tk then .any else eget l t := by
  induction tk with
  | nil => simp [eforget]
  | cons a tk ih =>
    simp only [eforget, eget_eput, ih, List.mem_cons]
    by_cases h : a = t
    · subst h; simp
    · rw [if_neg h]
      by_cases h2 : t ∈ tk
      · rw [if_pos h2, if_pos (.inr h2)]
      · rw [if_neg h2, if_neg (fun e => e.elim (fun e => h e.symm) h2)]
def forgetEff (tk : List Nat) : Eff := tk.map fun t => (.t t, .v .any)
def Foot.kill (tk : List Nat) : Foot → Foot
  | some (r, w) => some (r, tk.map .t ++ w)
  | none => none
theorem efind_forget_t (tk : List Nat) (e : Eff) (t : Nat) : efind (forgetEff tk ++ e) (.t t) = if t ∈ tk then some (.v .any) else efind e (.t t) := by
  induction tk with
  | nil => simp [forgetEff]
  | cons a tk ih =>
    simp only [forgetEff, List.map_cons, List.cons_append, efind, Key.t.injEq, List.mem_cons] at ih ⊢
    by_cases h : a = t
    · subst h; simp
    · rw [if_neg h, ih]
      by_cases h2 : t ∈ tk
      · rw [if_pos h2, if_pos (.inr h2)]
      · rw [if_neg h2, if_neg (fun e => e.elim (fun e => h e.symm) h2)]
theorem efind_forget_h (tk : List Nat) (e : Eff) (r : Nat) : efind (forgetEff tk ++ e) (.h r) = efind e (.h r) := by
  induction tk with
  | nil => simp [forgetEff]
  | cons a tk ih =>
    simp only [forgetEff, List.map_cons, List.cons_append, efind, reduceCtorEq, if_false] at ih ⊢
    exact ih
section
variable {P : Program} {G : List (Nat × PD)} {ro : Option Nat} {N : Nat} {xs : Exc} {ops : Array Oper} {σ σ' σ'' : St} {o : Oper} {rest : List Oper}
theorem exE_forget {e : Eff} (tk : List Nat) (h : exE xs e) : exE xs (forgetEff tk ++ e) := by
  induction tk with
  | nil => exact h
  | cons a tk ih =>
    refine ⟨?_, ih⟩
    have : ∀ xs : Exc, exOk xs (.t a) (.v .any) := fun xs => by
      induction xs with
      | nil => trivial
      | cons x xs ih => obtain ⟨r, S⟩ := x; exact ⟨.inr (by simp [Cont.rows, rowsOf]), ih⟩
    exact this xs
theorem look_forget (tk : List Nat) (τ : St) (s : SF) (e : Eff) (h : τ.look = s.app e) : ({ τ with env := eforget tk τ.env } : St).look = s.app (forgetEff tk ++ e) := by
  funext k
  cases k with
  | t t =>
    have := congrFun h (.t t)
    simp only [St.look, SF.app] at this ⊢
    rw [eget_eforget, efind_forget_t]
    by_cases h2 : t ∈ tk
    · rw [if_pos h2, if_pos h2]; rfl
    · rw [if_neg h2, if_neg h2]; exact this
  | h r =>
    have := congrFun h (.h r)
    simp only [St.look, SF.app] at this ⊢
    rw [efind_forget_h]; exact this
theorem Rep.forgotten {B : Base P} {a : Act} {w : World} {φ : Nm} (tk : List Nat) {τ : St} (h : Rep G B N τ a w φ) : Rep G B N { τ with env := eforget tk τ.env } a w φ := by
  have he : ∀ t, RepV w B.X φ τ.heap (a.tmps.getD t undef) (eget (eforget tk τ.env) t) := fun t => by
    rw [eget_eforget]
    split
    · exact .any _
    · exact h.env t
  exact { h with env := he }
theorem OpD.forget {f : Foot} {σ1 : St} (tk : List Nat) (h : OpD P G ro N xs o σ f σ1) : OpD P G ro N xs o σ (f.kill tk) { σ1 with env := eforget tk σ1.env } := by
  obtain ⟨e, h1, hx, h2, h3, h4⟩ := h
  refine ⟨forgetEff tk ++ e, ?_, exE_forget tk hx, fun σ' hd hrd hex => ?_, look_forget tk σ1 _ _ h3, h4⟩
  · cases f with
    | none => trivial
    | some p =>
      obtain ⟨r, w⟩ := p
      intro k hk
      simp only [ekeys, List.map_append, List.mem_append] at hk
      rcases hk with hk | hk
      · refine List.mem_append_left _ ?_
        simpa [forgetEff] using hk
      · exact List.mem_append_right _ (h1 k hk)
  · have hrd' : ∀ k, f.rd k → σ'.look k = σ.look k := fun k hk => hrd k (by cases f with
      | none => trivial
      | some p => obtain ⟨r, w⟩ := p; exact hk)
    exact fun B hro a w φ hr next Q hn => h2 σ' hd hrd' hex B hro a w φ hr next Q fun τ a' w' φ' ht hr' =>
      hn { τ with env := eforget tk τ.env } a' w' φ' ⟨ht.1, look_forget tk τ _ _ ht.2⟩ (hr'.forgotten tk)
theorem ddF (tk : List Nat) {acc : List Foot} {f : Foot} {Q : St → Prop} (h2 : DOps P G ro N xs ops Q rest (acc ++ [f.kill tk]) σ'')
    (h : ∀ K : Foot → St → Prop, K f σ' → dvStep P G ro N xs o σ K := by (intro K k; simp (disch := omega) only [go_sem, true_or, or_true, and_self, true_and, and_true, ↓reduceIte]; exact k)) (hg : o.guard = none := by rfl)
    (hs : ({ σ' with env := eforget tk σ'.env } : St) = σ'' := by (simp only [eforget, eput, ↓reduceIte, Nat.reduceEqDiff]; rfl)) : DOps P G ro N xs ops Q (o :: rest) acc σ := by
  obtain ⟨f1, σ1, h3, rfl, rfl⟩ := OpX.vc (h (fun f1 σ1 => f1 = f ∧ σ1 = σ') ⟨rfl, rfl⟩)
  subst hs
  exact .step (DStep.plain hg (h3.forget tk)) h2
end
end Go.Pv

namespace Go.Pv
theorem condT {α : Type} {c : Bool} {a b r : α} (hc : c = true) (h : cond c a b = r) : a = r := by subst hc; exact h
theorem condF {α : Type} {c : Bool} {a b r : α} (hc : c = false) (h : cond c a b = r) : b = r := by subst hc; exact h
theorem nelB_freeA_hole {α ω : Type} {S : BS α ω} [hS : BN S] {gs : List Nat} {i : Nat} {L : List α} {p : PV} (h : (gs.all fun s => decide (s < 1000000)) = true) (hp : ((rowsOf p).any fun r => gs.contains r) = false) : ((rowsOfL ((nelB S L).set i p)).any fun r => gs.contains r) = false := by
  rw [List.any_eq_false]
  intro r hr hc
  have hrl : r < 1000000 := by
    have := List.all_eq_true.1 h r (by simpa using hc)
    simpa using this
  have hp' : r ∉ rowsOf p := fun hm => by
    rw [List.any_eq_false] at hp
    exact hp r hm hc
  exact nelB_notin_hole hrl (by simpa using hp') hr
section
variable {P : Program} {G : List (Nat × PD)} {ro : Option Nat} {N : Nat} {ops : Array Oper} {σ σ' : St} {o : Oper} {rest : List Oper}
theorem OpT.callW {M : List Block} [hM : BlksOk M] {c : Call} {f : FuncId} {xo : Operand} {caps args : List PV} {res : PV} {lH lH' lc : Heap} {K : St → Prop} (gl : List (Nat × Nat)) (gs dr : List Nat)
    (hf : ObjFn P G f args lH res lH') (hs : σ.heap = dynBH M lc) (hlH : lows lH) (hlH' : lows lH')
    (hg2 : (gl.all fun p => decide (p.2 < 1000000)) = true)
    (hd : dstOk N o.dst) (ho : o.op = .call c) (hc : c.callee = .value xo) (hx : calleeV (σ.eval xo) = some (f, caps)) (hcal : callable P f = true)
    (hrow : handLU lc (renOf gl) lH lH) (hinj : injL (renOf gl) lH) (hgs : givL (renOf gl) gs lH) (him : imgL (renOf gl) lH gs) (hgl : (gs.all fun p => decide (p < 1000000)) = true)
    (henv : freeEnv gs (edrop dr σ.env)) (hdfr : σ.dfr = []) (hout : freeHeap (renOf gl) lH gs lc)
    (ha : handsOk σ.heap lH (renOf gl) (evalL σ c.args.toList ++ caps) args)
    (hback : backLN lH (renOf gl) gs lc lH' lH') (hall : allIn lH' lH) (hinj2 : injL (renOf gl) lH') (hcl : clean res) (hrf : refsIn lH' res)
    (hK : K (({ σ with env := edrop dr σ.env, heap := dynBH M (hmerge (renOf gl) lH' (hdrop gs lc)) } : St).put o.dst (res.ren (renOf gl)))) : OpT P G ro N o σ K := by
  have hlow : ∀ r, r < 1000000 → renOf gl r < 1000000 := fun r h => renOf_low hg2 h
  have hgsl : ∀ s ∈ gs, s < 1000000 := fun s h => by simpa using List.all_eq_true.1 hgl s h
  have low1 : ∀ r x, hget lH r = some x → r < 1000000 := fun r x h => Nat.lt_of_not_le fun h4 => by rw [lows_get hlH r h4] at h; cases h
  have low2 : ∀ r x, hget lH' r = some x → r < 1000000 := fun r x h => Nat.lt_of_not_le fun h4 => by rw [lows_get hlH' r h4] at h; cases h
  refine OpT.relook (σ' := ({ σ with env := edrop dr σ.env, heap := dynBH M (hmerge (renOf gl) lH' (hdrop gs lc)) } : St).put o.dst (res.ren (renOf gl))) ?_ hK
  refine OpT.callU2 dr (H := lH) (g := renOf gl) (gs := gs) ho hc hx hcal hf
    ⟨⟨fun r x h => ?_, fun r s x y h h' => injL_get hinj r s x y (hget_mem h) (hget_mem h'), fun r x h => (handLU_get hrow r x h).2⟩, fun r x h hr => ?_, fun r x h hr => ?_, fun s hs => (imgL_get him s hs).1, fun s hs => (imgL_get him s hs).2, freeEnv_get henv, fun s _ => by rw [hdfr]; simp [rowsOfL], fun s h t y hy hn => ?_⟩ ha hd ?_
  · show hget σ.heap _ = _
    rw [hs, hget_dynBH (hlow r (low1 r x h))]; exact (handLU_get hrow r x h).1
  · have := givL_get hgs r x h
    rw [if_neg (by omega)] at this; exact this
  · have := givL_get hgs r x h
    rw [if_pos hr] at this; exact this
  · have hy : hget σ.heap t = some y := hy
    rw [hs] at hy
    by_cases htl : t < 1000000
    · rw [hget_dynBH htl] at hy
      exact freeHeap_get hout s h t y hy hn
    · intro hm
      have hsl := hgsl s h
      simp only [dynBH, hget_append] at hy
      cases hg : hget (dynB 0 M) t with
      | none =>
        rw [hg] at hy
        have hmem := hget_mem hy
        exact freeHeap_get hout s h t y hy hn hm
      | some z =>
        rw [hg] at hy; cases hy
        have := (dynB_rows (hget_mem hg)).2 s hm
        omega
  · rintro p K' ⟨rfl, rfl⟩
    have hb : BackU { σ with env := edrop dr σ.env } lH K' (renOf gl) (renOf gl) gs := by
      refine ⟨fun r x h hr => ?_, fun r x h _ => Option.isSome_iff_exists.1 (allIn_get hall r x (hget_mem h)), fun r x h hr => ?_, fun r s x y h h' => injL_get hinj2 r s x y (hget_mem h) (hget_mem h'), fun r x h => (backLN_get hback r x h).2⟩
      · have := (backLN_get hback r x h).1
        rw [if_pos hr] at this
        split at this
        · rename_i y hy; exact ⟨y, hy, rfl, this.1, fun hk => this.2.resolve_left (by have := this.1; omega)⟩
        · exact this.elim
      · have := (backLN_get hback r x h).1
        rw [if_neg (by omega)] at this
        refine ⟨this.1.elim (fun h => .inr (by simpa using h)) (fun h2 => .inl ?_), this.2⟩
        show hget σ.heap _ = none
        rw [hs, hget_dynBH (hlow r (low2 r x h))]; exact h2
    refine ⟨renOf gl, hb, hcl, hrf, ?_⟩
    have hm := hb.merged
    have hm2 := hmerge_ok (ρ := renOf gl) (l := K') (H0 := hdrop gs lc) (fun r s hr hs he => by
      obtain ⟨x, hx⟩ := Option.isSome_iff_exists.1 hr
      obtain ⟨y, hy⟩ := Option.isSome_iff_exists.1 hs
      exact hb.inj r s x y hx hy he)
    have hheap : ∀ s, hget (hmerge (renOf gl) K' (hdrop gs σ.heap)) s = hget (dynBH M (hmerge (renOf gl) K' (hdrop gs lc))) s := fun s => by
      by_cases hex : ∃ r x, hget K' r = some x ∧ renOf gl r = s
      · obtain ⟨r, x, h1, rfl⟩ := hex
        rw [hm.inn r x h1, hget_dynBH (hlow r (low2 r x h1)), hm2.1 r x h1]
      · have hn : ∀ r x, hget K' r = some x → renOf gl r ≠ s := fun r x h1 h2 => hex ⟨r, x, h1, h2⟩
        rw [hm.out s hn]
        show (if s ∈ gs then none else hget σ.heap s) = _
        simp only [dynBH, hget_append] at hs ⊢
        rw [hm2.2 s hn, hget_hdrop, hs, hget_append]
        by_cases h1 : s ∈ gs
        · rw [if_pos h1, if_pos h1, hget_dynB_low (hgsl s h1)]
        · rw [if_neg h1, if_neg h1]
    refine ⟨?_, by rw [St.put_rest, St.put_rest]; rfl⟩
    funext key
    cases key with
    | t t => cases hdst : o.dst <;> simp [St.look, St.put]
    | h s =>
      have := hheap s
      cases hdst : o.dst <;> simp [St.look, St.put, this]
instance : BlksOk [] := ⟨fun i b h => by simp at h⟩
theorem clW {M : List Block} [hM : BlksOk M] {c : Call} {f : FuncId} {xo : Operand} {caps args : List PV} {res : PV} {lH lH' lc : Heap} {Q : St → Prop} (gl : List (Nat × Nat)) (gs dr : List Nat)
    (hf : ObjFn P G f args lH res lH') (h2 : AOps P G ro N ops rest σ' Q)
    (hd : dstOk N o.dst := by (simp only [go_sem, ↓reduceIte]; done)) (hg : ∀ {K : St → Prop}, OpT P G ro N o σ K → vcOpC P G ro N (dsts ops) o σ K := by (intro K k; simp (disch := omega) only [go_sem, ↓reduceIte]; exact k))
    (hs : σ.heap = dynBH M lc := by rfl) (hlH : lows lH := by (repeat' (first | exact trivial | decide | apply And.intro))) (hlH' : lows lH' := by (repeat' (first | exact trivial | decide | apply And.intro)))
    (hg2 : (gl.all fun p => decide (p.2 < 1000000)) = true := by rfl)
    (ho : o.op = .call c := by rfl) (hc : c.callee = .value xo := by rfl) (hx : calleeV (σ.eval xo) = some (f, caps) := by rfl) (hcal : callable P f = true := by kernel_rfl)
    (hrow : handLU lc (renOf gl) lH lH := by (simp only [handLU, Row.ren, go_sem, ↓reduceIte]; (repeat' (first | exact trivial | exact rfl | (simp only [List.length_append, List.length_set, List.length_replicate, List.length_cons, List.length_nil, Nat.zero_add] <;> exact rfl) | apply And.intro))))
    (hinj : injL (renOf gl) lH := by (simp only [injL, injOne, go_sem, ↓reduceIte]; (repeat' (first | exact trivial | (intro h; cases h; done) | apply And.intro))))
    (hgs : givL (renOf gl) gs lH := by (simp only [givL, go_sem, ↓reduceIte]; (repeat' (first | exact trivial | exact rfl | apply And.intro))))
    (him : imgL (renOf gl) lH gs := by (repeat' (first | exact trivial | exact rfl | decide | apply And.intro))) (hgl : (gs.all fun p => decide (p < 1000000)) = true := by rfl)
    (henv : freeEnv gs (edrop dr σ.env) := by (repeat' (first | exact trivial | exact rfl | apply And.intro))) (hdfr : σ.dfr = [] := by rfl)
    (hout : freeHeap (renOf gl) lH gs lc := by (repeat' (first | exact trivial | exact .inl rfl | exact .inr rfl | exact .inr (nelB_freeA_hole rfl rfl) | exact .inr (by simp only [go_sem, List.any_nil]) | apply And.intro)))
    (ha : handsOk σ.heap lH (renOf gl) (evalL σ c.args.toList ++ caps) args := by (repeat' (first | exact trivial | exact rfl | exact dyBS rfl | apply And.intro | (simp only [go_sem, ↓reduceIte]; done))))
    (hback : backLN lH (renOf gl) gs lc lH' lH' := by (simp only [backLN, go_sem, ↓reduceIte]; (repeat' (first | exact trivial | exact rfl | exact .inl trivial | exact .inl rfl | exact .inr rfl | exact .inl (.inl rfl) | decide | apply And.intro))))
    (hall : allIn lH' lH := by (repeat' (first | exact trivial | exact rfl | apply And.intro))) (hinj2 : injL (renOf gl) lH' := by (simp only [injL, injOne, go_sem, ↓reduceIte]; (repeat' (first | exact trivial | (intro h; cases h; done) | apply And.intro))))
    (hp : ({ σ with env := edrop dr σ.env, heap := dynBH M (hmerge (renOf gl) lH' (hdrop gs lc)) } : St).put o.dst (res.ren (renOf gl)) = σ' := by (simp only [hmerge, Row.ren, hdrop, edrop, List.contains_cons, List.contains_nil, beq_iff_eq, BEq.rfl, Nat.reduceBEq, Bool.or_false, Bool.false_or, Bool.true_or, Bool.or_true, Bool.false_eq_true, go_sem, ↓reduceIte]; rfl))
    (hcl : clean res := by (simp only [clean, cleanL, and_self]; done)) (hrf : refsIn lH' res := by (first | exact trivial | exact rfl | (simp only [go_sem, ↓reduceIte]; done))) :
    AOps P G ro N ops (o :: rest) σ Q :=
  AOps.consC hd fun K hK => hg (OpT.callW gl gs dr hf hs hlH hlH' hg2 hd ho hc hx hcal hrow hinj hgs him hgl henv hdfr hout ha hback hall hinj2 hcl hrf (hp ▸ hK _ h2))
theorem ObjFn.pfS {f : FuncId} {fn : Func} {c : Code} {args : List PV} {H H' : Heap} {res : PV} {n : Nat} {e0 : List (Nat × PV)} (hf : P.funcs[f]? = some fn) (hn : fn.ntmps = n)
    (h : AWp P G none n c ⟨e0, H, [], none⟩ (fun e τ => ∃ τ', Sub G n τ τ' ∧ Fin P G fn (fun p K => p = res ∧ heapLe H' K) e τ')) (hb : fn.body = some c := by rfl) (hN : args.length ≤ n := by simp)
    (he : argEnv 0 args = e0 := by (simp only [argEnv, Nat.reduceAdd, Nat.zero_add]; rfl)) (hrf : refsIn H' res := by first | exact trivial | exact rfl | (simp only [go_sem, ↓reduceIte]; done))
    (hrh : heapRefs H' H' := by (repeat' (first | exact trivial | exact row_refs _ _ | exact rfl | exact dyBR rfl | exact dyBS rfl | refine heapLe_dynBH rfl ?_ | refine heapRefs_dynBH ?_ | exact nelB_refs (by repeat' (first | exact trivial | decide | apply And.intro)) | apply And.intro | (simp only [go_sem, ↓reduceIte]; done)))) : ObjFn P G f args H res H' :=
  ObjFn.pf hf hn (h.monoS fun _ _ h => h) hb hN he hrf hrh
theorem sbB {τ : St} (h1 : envLe τ.env σ.env := by (repeat' (first | exact trivial | exact rfl | apply And.intro | exact slcl (by (simp only [List.length_append, List.length_set, List.length_replicate, List.length_cons, List.length_nil, Nat.zero_add]; done)))))
    (h2 : heapLe τ.heap σ.heap := by (refine heapLe_dynBH rfl ?_; (repeat' (first | exact trivial | exact dyBR rfl | exact dyBR (congrArg (fun els => some (Row.mk _ _ els)) (dl_set_eq rfl)) | (simp only [List.length_append, List.length_set, List.length_replicate, List.length_cons, List.length_nil, Nat.zero_add] <;> first | exact rfl | exact dyBR rfl) | apply And.intro))))
    (h3 : envRefs τ.heap τ.env := by (repeat' (first | exact trivial | exact dyBS rfl | apply And.intro | (simp only [go_sem, ↓reduceIte]; done))))
    (h4 : heapRefs τ.heap τ.heap := by (refine heapRefs_dynBH ?_; (repeat' (first | exact trivial | exact dyBS rfl | exact nelB_refs (by repeat' (first | exact trivial | decide | apply And.intro)) | exact nelB_refs_hole (by repeat' (first | exact trivial | decide | apply And.intro)) (by repeat' (first | exact trivial | exact dyBS rfl | apply And.intro)) | (simp only [go_sem, ↓reduceIte]; done) | apply And.intro))))
    (h5 : σ.dfr = τ.dfr ∧ refsInL τ.heap τ.dfr ∧ σ.gh = τ.gh := by exact ⟨rfl, trivial, rfl⟩) : Sub G N σ τ := Sub.mk h1 h2 h3 h4 h5
end
end Go.Pv

namespace Go.Pv
structure Stamp where
  No : Int
  Post : Int
  Turn : Int
deriving DecidableEq
instance : Inhabited Stamp := ⟨⟨0, 0, 0⟩⟩
def Stamp.pd (x : Stamp) : PD := .agg [(.int .i64 x.No), (.int .i64 x.Post), (.int .i64 x.Turn)]
attribute [go_sem] Stamp.pd
@[go_sem] theorem snoc_Stamp (l : List Stamp) (a0 : Int) (a1 : Int) (a2 : Int) : dl (lenc Stamp.pd l) ++ [PV.d (PD.agg [(.int .i64 a0), (.int .i64 a1), (.int .i64 a2)])] = dl (lenc Stamp.pd (l ++ [(⟨a0, a1, a2⟩ : Stamp)])) := lenc_snoc Stamp.pd l (⟨a0, a1, a2⟩ : Stamp)
@[go_sem] theorem set_Stamp (l : List Stamp) (i : Nat) (a0 : Int) (a1 : Int) (a2 : Int) : (lenc Stamp.pd l).set i (PD.agg [(.int .i64 a0), (.int .i64 a1), (.int .i64 a2)]) = lenc Stamp.pd (l.set i (⟨a0, a1, a2⟩ : Stamp)) := lenc_set Stamp.pd l i (⟨a0, a1, a2⟩ : Stamp)
@[go_sem] theorem rep_Stamp (n : Nat) (a0 : Int) (a1 : Int) (a2 : Int) : List.replicate n (PD.agg [(.int .i64 a0), (.int .i64 a1), (.int .i64 a2)]) = lenc Stamp.pd (List.replicate n (⟨a0, a1, a2⟩ : Stamp)) := lenc_rep Stamp.pd n (⟨a0, a1, a2⟩ : Stamp)
structure Work where
  turn : Int
  call : Int
  write : Bool
  puts : Bool
  stamp : Stamp
  value : Int
  answered : (List Bool)
deriving DecidableEq
instance : Inhabited Work := ⟨⟨0, 0, false, false, ⟨0, 0, 0⟩, 0, []⟩⟩
def Work.pd (x : Work) : PD := .agg [(.int .i64 x.turn), (.int .i64 x.call), (.bool x.write), (.bool x.puts), (.int .i64 x.stamp.No), (.int .i64 x.stamp.Post), (.int .i64 x.stamp.Turn), (.int .i64 x.value), (.imm 1 (lenc PD.bool x.answered))]
attribute [go_sem] Work.pd
@[go_sem] theorem snoc_Work (l : List Work) (a0 : Int) (a1 : Int) (a2 : Bool) (a3 : Bool) (a4 : Int) (a5 : Int) (a6 : Int) (a7 : Int) (a8 : (List Bool)) : dl (lenc Work.pd l) ++ [PV.d (PD.agg [(.int .i64 a0), (.int .i64 a1), (.bool a2), (.bool a3), (.int .i64 a4), (.int .i64 a5), (.int .i64 a6), (.int .i64 a7), (.imm 1 (lenc PD.bool a8))])] = dl (lenc Work.pd (l ++ [(⟨a0, a1, a2, a3, (⟨a4, a5, a6⟩ : Stamp), a7, a8⟩ : Work)])) := lenc_snoc Work.pd l (⟨a0, a1, a2, a3, (⟨a4, a5, a6⟩ : Stamp), a7, a8⟩ : Work)
@[go_sem] theorem set_Work (l : List Work) (i : Nat) (a0 : Int) (a1 : Int) (a2 : Bool) (a3 : Bool) (a4 : Int) (a5 : Int) (a6 : Int) (a7 : Int) (a8 : (List Bool)) : (lenc Work.pd l).set i (PD.agg [(.int .i64 a0), (.int .i64 a1), (.bool a2), (.bool a3), (.int .i64 a4), (.int .i64 a5), (.int .i64 a6), (.int .i64 a7), (.imm 1 (lenc PD.bool a8))]) = lenc Work.pd (l.set i (⟨a0, a1, a2, a3, (⟨a4, a5, a6⟩ : Stamp), a7, a8⟩ : Work)) := lenc_set Work.pd l i (⟨a0, a1, a2, a3, (⟨a4, a5, a6⟩ : Stamp), a7, a8⟩ : Work)
@[go_sem] theorem rep_Work (n : Nat) (a0 : Int) (a1 : Int) (a2 : Bool) (a3 : Bool) (a4 : Int) (a5 : Int) (a6 : Int) (a7 : Int) (a8 : (List Bool)) : List.replicate n (PD.agg [(.int .i64 a0), (.int .i64 a1), (.bool a2), (.bool a3), (.int .i64 a4), (.int .i64 a5), (.int .i64 a6), (.int .i64 a7), (.imm 1 (lenc PD.bool a8))]) = lenc Work.pd (List.replicate n (⟨a0, a1, a2, a3, (⟨a4, a5, a6⟩ : Stamp), a7, a8⟩ : Work)) := lenc_rep Work.pd n (⟨a0, a1, a2, a3, (⟨a4, a5, a6⟩ : Stamp), a7, a8⟩ : Work)
structure Pst where
  up : Bool
  stamp : Stamp
  value : Int
  turns : Int
  work : (Option Work)
deriving DecidableEq
instance : Inhabited Pst := ⟨⟨false, ⟨0, 0, 0⟩, 0, 0, none⟩⟩
structure Msg where
  Kind : Int
  From : Int
  To : Int
  Turn : Int
  Stamp : Stamp
  Value : Int
deriving DecidableEq
instance : Inhabited Msg := ⟨⟨0, 0, 0, 0, ⟨0, 0, 0⟩, 0⟩⟩
def Msg.pd (x : Msg) : PD := .agg [(.int .i64 x.Kind), (.int .i64 x.From), (.int .i64 x.To), (.int .i64 x.Turn), (.int .i64 x.Stamp.No), (.int .i64 x.Stamp.Post), (.int .i64 x.Stamp.Turn), (.int .i64 x.Value)]
attribute [go_sem] Msg.pd
@[go_sem] theorem snoc_Msg (l : List Msg) (a0 : Int) (a1 : Int) (a2 : Int) (a3 : Int) (a4 : Int) (a5 : Int) (a6 : Int) (a7 : Int) : dl (lenc Msg.pd l) ++ [PV.d (PD.agg [(.int .i64 a0), (.int .i64 a1), (.int .i64 a2), (.int .i64 a3), (.int .i64 a4), (.int .i64 a5), (.int .i64 a6), (.int .i64 a7)])] = dl (lenc Msg.pd (l ++ [(⟨a0, a1, a2, a3, (⟨a4, a5, a6⟩ : Stamp), a7⟩ : Msg)])) := lenc_snoc Msg.pd l (⟨a0, a1, a2, a3, (⟨a4, a5, a6⟩ : Stamp), a7⟩ : Msg)
@[go_sem] theorem set_Msg (l : List Msg) (i : Nat) (a0 : Int) (a1 : Int) (a2 : Int) (a3 : Int) (a4 : Int) (a5 : Int) (a6 : Int) (a7 : Int) : (lenc Msg.pd l).set i (PD.agg [(.int .i64 a0), (.int .i64 a1), (.int .i64 a2), (.int .i64 a3), (.int .i64 a4), (.int .i64 a5), (.int .i64 a6), (.int .i64 a7)]) = lenc Msg.pd (l.set i (⟨a0, a1, a2, a3, (⟨a4, a5, a6⟩ : Stamp), a7⟩ : Msg)) := lenc_set Msg.pd l i (⟨a0, a1, a2, a3, (⟨a4, a5, a6⟩ : Stamp), a7⟩ : Msg)
@[go_sem] theorem rep_Msg (n : Nat) (a0 : Int) (a1 : Int) (a2 : Int) (a3 : Int) (a4 : Int) (a5 : Int) (a6 : Int) (a7 : Int) : List.replicate n (PD.agg [(.int .i64 a0), (.int .i64 a1), (.int .i64 a2), (.int .i64 a3), (.int .i64 a4), (.int .i64 a5), (.int .i64 a6), (.int .i64 a7)]) = lenc Msg.pd (List.replicate n (⟨a0, a1, a2, a3, (⟨a4, a5, a6⟩ : Stamp), a7⟩ : Msg)) := lenc_rep Msg.pd n (⟨a0, a1, a2, a3, (⟨a4, a5, a6⟩ : Stamp), a7⟩ : Msg)
structure Cal where
  Post : Int
  Write : Bool
  Value : Int
  Start : Int
  End : Int
deriving DecidableEq
instance : Inhabited Cal := ⟨⟨0, false, 0, 0, 0⟩⟩
def Cal.pd (x : Cal) : PD := .agg [(.int .i64 x.Post), (.bool x.Write), (.int .i64 x.Value), (.int .i64 x.Start), (.int .i64 x.End)]
attribute [go_sem] Cal.pd
@[go_sem] theorem snoc_Cal (l : List Cal) (a0 : Int) (a1 : Bool) (a2 : Int) (a3 : Int) (a4 : Int) : dl (lenc Cal.pd l) ++ [PV.d (PD.agg [(.int .i64 a0), (.bool a1), (.int .i64 a2), (.int .i64 a3), (.int .i64 a4)])] = dl (lenc Cal.pd (l ++ [(⟨a0, a1, a2, a3, a4⟩ : Cal)])) := lenc_snoc Cal.pd l (⟨a0, a1, a2, a3, a4⟩ : Cal)
@[go_sem] theorem set_Cal (l : List Cal) (i : Nat) (a0 : Int) (a1 : Bool) (a2 : Int) (a3 : Int) (a4 : Int) : (lenc Cal.pd l).set i (PD.agg [(.int .i64 a0), (.bool a1), (.int .i64 a2), (.int .i64 a3), (.int .i64 a4)]) = lenc Cal.pd (l.set i (⟨a0, a1, a2, a3, a4⟩ : Cal)) := lenc_set Cal.pd l i (⟨a0, a1, a2, a3, a4⟩ : Cal)
@[go_sem] theorem rep_Cal (n : Nat) (a0 : Int) (a1 : Bool) (a2 : Int) (a3 : Int) (a4 : Int) : List.replicate n (PD.agg [(.int .i64 a0), (.bool a1), (.int .i64 a2), (.int .i64 a3), (.int .i64 a4)]) = lenc Cal.pd (List.replicate n (⟨a0, a1, a2, a3, a4⟩ : Cal)) := lenc_rep Cal.pd n (⟨a0, a1, a2, a3, a4⟩ : Cal)
structure Net where
  posts : (List Pst)
  messages : (List Msg)
  calls : (List Cal)
  clock : Int
deriving DecidableEq
instance : Inhabited Net := ⟨⟨[], [], [], 0⟩⟩
structure Act where
  Kind : Int
  A : Int
  B : Int
deriving DecidableEq
instance : Inhabited Act := ⟨⟨0, 0, 0⟩⟩
def Act.pd (x : Act) : PD := .agg [(.int .u8 x.Kind), (.int .i64 x.A), (.int .i64 x.B)]
attribute [go_sem] Act.pd
@[go_sem] theorem snoc_Act (l : List Act) (a0 : Int) (a1 : Int) (a2 : Int) : dl (lenc Act.pd l) ++ [PV.d (PD.agg [(.int .u8 a0), (.int .i64 a1), (.int .i64 a2)])] = dl (lenc Act.pd (l ++ [(⟨a0, a1, a2⟩ : Act)])) := lenc_snoc Act.pd l (⟨a0, a1, a2⟩ : Act)
@[go_sem] theorem set_Act (l : List Act) (i : Nat) (a0 : Int) (a1 : Int) (a2 : Int) : (lenc Act.pd l).set i (PD.agg [(.int .u8 a0), (.int .i64 a1), (.int .i64 a2)]) = lenc Act.pd (l.set i (⟨a0, a1, a2⟩ : Act)) := lenc_set Act.pd l i (⟨a0, a1, a2⟩ : Act)
@[go_sem] theorem rep_Act (n : Nat) (a0 : Int) (a1 : Int) (a2 : Int) : List.replicate n (PD.agg [(.int .u8 a0), (.int .i64 a1), (.int .i64 a2)]) = lenc Act.pd (List.replicate n (⟨a0, a1, a2⟩ : Act)) := lenc_rep Act.pd n (⟨a0, a1, a2⟩ : Act)
def Pst.bs : BS Pst Work where
  wk x := x.work
  c0 s w := ⟨103, 9, [.agg [.d (.int .i64 w.turn), .d (.int .i64 w.call), .d (.bool w.write), .d (.bool w.puts), .d (.int .i64 w.stamp.No), .d (.int .i64 w.stamp.Post), .d (.int .i64 w.stamp.Turn), .d (.int .i64 w.value), .slc s 0 w.answered.length]]⟩
  c1 w := ⟨4, 1, dl (lenc PD.bool w.answered)⟩
  F p x := .agg [.d (.bool x.up), .d (.int .i64 x.stamp.No), .d (.int .i64 x.stamp.Post), .d (.int .i64 x.stamp.Turn), .d (.int .i64 x.value), .d (.int .i64 x.turns), p]
@[go_sem] theorem Pst_c0 (s : Nat) (w : Work) : Pst.bs.c0 s w = ⟨103, 9, [.agg [.d (.int .i64 w.turn), .d (.int .i64 w.call), .d (.bool w.write), .d (.bool w.puts), .d (.int .i64 w.stamp.No), .d (.int .i64 w.stamp.Post), .d (.int .i64 w.stamp.Turn), .d (.int .i64 w.value), .slc s 0 w.answered.length]]⟩ := rfl
@[go_sem] theorem Pst_F (p : PV) (x : Pst) : Pst.bs.F p x = .agg [.d (.bool x.up), .d (.int .i64 x.stamp.No), .d (.int .i64 x.stamp.Post), .d (.int .i64 x.stamp.Turn), .d (.int .i64 x.value), .d (.int .i64 x.turns), p] := rfl
instance : BN Pst.bs where
  ren0 ρ s w := by simp [Pst.bs, Row.ren, PV.ren, renL]
  rows0 s w r h := by simpa [Pst.bs, rowsOf, rowsOfL] using h
  clean0 s w := by simp [Pst.bs, clean, cleanL]
  data1 w := ⟨_, rfl⟩
  renF ρ p x := by simp [Pst.bs, PV.ren, renL]
  rowsF p x r h := by simpa [Pst.bs, rowsOf, rowsOfL] using h
  refsF H p x h := by simp [Pst.bs, refsIn, refsInL, h]
  killF q p x := by simp [Pst.bs, PV.kill, killL]
  cleanF p x h := by simp [Pst.bs, clean, cleanL, h]
  byteF p x := rfl
def delOk {α : Type} (l : List α) (i j : Int) : Bool := decide (0 ≤ i ∧ i ≤ j ∧ j ≤ l.length ∧ l.length ≤ 4294967296)
def delT {α : Type} (l : List α) (i j : Int) : List α := l.take i.toNat ++ l.drop j.toNat
def delP {α : Type} [Inhabited α] (l : List α) (i j : Int) : List α := l.take i.toNat ++ l.drop j.toNat ++ List.replicate (j - i).toNat default
theorem delT_le {α : Type} {l : List α} {i j : Int} (h : delOk l i j = true) : (delT l i j).length = l.length - (j - i).toNat := by
  unfold delOk at h
  rw [decide_eq_true_eq] at h
  unfold delT
  simp only [List.length_append, List.length_take, List.length_drop]
  omega
theorem delP_len {α : Type} [Inhabited α] {l : List α} {i j : Int} (h : delOk l i j = true) : (delP l i j).length = l.length := by
  unfold delOk at h
  rw [decide_eq_true_eq] at h
  unfold delP
  simp only [List.length_append, List.length_take, List.length_drop, List.length_replicate]
  omega
theorem delP_take {α : Type} [Inhabited α] {f : α → PD} {l : List α} {i j : Int} : (dl (lenc f (delP l i j))).take (delT l i j).length = dl (lenc f (delT l i j)) := by
  have e : delP l i j = delT l i j ++ List.replicate (j - i).toNat default := rfl
  rw [e]
  simp [dl, lenc]
theorem dl_noByte {α : Type} {f : α → PD} {l : List α} (h : ∀ a, isByte (.d (f a)) = false) : ∀ p ∈ dl (lenc f l), isByte p = false := by
  intro p hp
  simp only [dl, lenc, List.mem_map] at hp
  obtain ⟨q, ⟨a, _, rfl⟩, rfl⟩ := hp
  exact h a
def netL (t : Net) : Heap := [(1000, ⟨67, 4, [.agg [.slc 1001 0 t.posts.length, .slc 1002 0 t.messages.length, .slc 1003 0 t.calls.length, .d (.int .i64 t.clock)]]⟩), (1001, ⟨84, 7, nelB Pst.bs t.posts⟩), (1002, ⟨88, 8, dl (lenc Msg.pd t.messages)⟩), (1003, ⟨51, 5, dl (lenc Cal.pd t.calls)⟩)]
def netRes : Option Net → PV
  | none => .d .nilptr
  | some _ => .ptr 1000 0 0
def netHeap : Option Net → Heap
  | none => []
  | some t => dynBH (blks Pst.bs t.posts) (netL t)
theorem netRefs (o : Option Net) (l : List PD) : refsIn (netHeap o) (.tuple (netRes o :: l.map .d)) := by
  refine ⟨?_, of_eq_true (refsInL_d _ l)⟩
  cases o with
  | none => trivial
  | some t => exact dyBS rfl
theorem netRefs2 (o : Option Net) : heapRefs (netHeap o) (netHeap o) := by
  cases o with
  | none => trivial
  | some t => exact heapRefs_dynBH ⟨⟨⟨dyBS rfl, dyBS rfl, dyBS rfl, trivial, trivial⟩, trivial⟩, nelB_refs (by repeat' (first | exact trivial | decide | apply And.intro)), by simp only [go_sem], by simp only [go_sem], trivial⟩
attribute [go_sem] netL
noncomputable def m_post_New_h_l1 (n1 : Int) : (Int × (List Pst)) → Option ((Int × (List Pst)) ⊕ (List Pst)) := fun (v1, L2) =>
 cond (decide (v1 < n1))
  (
  guardO (L2.length + 1 ≤ 4294967296) <|
  some (.inl ((IntKind.i64.wrap (v1 + 1)), (L2 ++ [(⟨true, (⟨0, 0, 0⟩ : Stamp), 0, 0, none⟩ : Pst)])))
  )
  (
  some (.inr L2)
  )
noncomputable def m_post_New_h (n1 : Int) : Option ((Option Net) × Int) :=
 cond ((decide (n1 < 1)) || (decide (5 < n1)))
  (
  some (none, 2)
  )
  (
  (
   (iter (m_post_New_h_l1 n1) (0, [])).bind fun x_11 =>
   some x_11
   : Option (List Pst)).bind fun L1 =>
  some ((some (⟨L1, [], [], 0⟩ : Net)), 0)
  )
noncomputable def m_post_Net_ok_h (o1 : Net) : Option (Bool × Net) :=
 guardO (o1.posts.length ≠ 0) <|
 some (true, o1)
noncomputable def m_post_Net_at_h (o1 : Net) (no1 : Int) : Option (Int × Net) :=
 (m_post_Net_ok_h o1).bind fun r1 =>
 cond (!r1.1)
  (
  some (1, r1.2)
  )
  (
  cond ((decide (no1 < 0)) || (decide ((r1.2.posts.length : Int) ≤ no1)))
   (
   some (2, r1.2)
   )
   (
   some (0, r1.2)
   )
  )
noncomputable def m_post_Net_send_h (o1 : Net) (m1 : Msg) : Option Net :=
 cond (decide ((o1.messages.length : Int) < 500))
  (
  guardO (o1.messages.length + [m1].length ≤ 4294967296) <|
  some (⟨o1.posts, (o1.messages ++ [m1]), o1.calls, o1.clock⟩ : Net)
  )
  (
  some o1
  )
noncomputable def m_post_Net_all_h_l1 (o1 : Net) : (Int × Int × (List Pst) × (List Msg) × (List Cal) × Msg) → Option ((Int × Int × (List Pst) × (List Msg) × (List Cal) × Msg) ⊕ Net) := fun (v1, c1, L1, L2, L3, c2) =>
 cond (decide (v1 < (o1.posts.length : Int)))
  (
  (m_post_Net_send_h (⟨L1, L2, L3, c1⟩ : Net) (⟨c2.Kind, c2.From, v1, c2.Turn, c2.Stamp, c2.Value⟩ : Msg)).bind fun r1 =>
  some (.inl ((IntKind.i64.wrap (v1 + 1)), r1.clock, r1.posts, r1.messages, r1.calls, (⟨c2.Kind, c2.From, v1, c2.Turn, c2.Stamp, c2.Value⟩ : Msg)))
  )
  (
  some (.inr (⟨L1, L2, L3, c1⟩ : Net))
  )
noncomputable def m_post_Net_all_h (o1 : Net) (m1 : Msg) : Option Net :=
 (iter (m_post_Net_all_h_l1 o1) (0, o1.clock, o1.posts, o1.messages, o1.calls, m1)).bind fun x_5 =>
 some x_5
noncomputable def m_post_Net_begin_h (o1 : Net) (no1 : Int) (write1 : Bool) (value1 : Int) : Option (Int × Net) :=
 (idx o1.posts no1).bind fun e1 =>
 (idx o1.posts no1).bind fun e2 =>
 optB e2.work
  (
  cond (!e2.up)
   (
   some (9, (⟨(o1.posts.set ((no1).toNat) (⟨e2.up, e2.stamp, e2.value, e2.turns, none⟩ : Pst)), o1.messages, o1.calls, o1.clock⟩ : Net))
   )
   (
   cond (decide (100 ≤ (o1.calls.length : Int)))
    (
    some (8, (⟨(o1.posts.set ((no1).toNat) (⟨e2.up, e2.stamp, e2.value, e2.turns, none⟩ : Pst)), o1.messages, o1.calls, o1.clock⟩ : Net))
    )
    (
    cond (decide (500 < (IntKind.i64.wrap ((o1.messages.length : Int) + (o1.posts.length : Int)))))
     (
     some (8, (⟨(o1.posts.set ((no1).toNat) (⟨e2.up, e2.stamp, e2.value, e2.turns, none⟩ : Pst)), o1.messages, o1.calls, o1.clock⟩ : Net))
     )
     (
     guardO (0 ≤ (o1.posts.length : Int) ∧ (o1.posts.length : Int) ≤ 4294967296) <|
     (
      cond write1
       (
       some (⟨no1, write1, value1, (IntKind.i64.wrap (o1.clock + 1)), (-1)⟩ : Cal)
       )
       (
       some (⟨no1, write1, 0, (IntKind.i64.wrap (o1.clock + 1)), (-1)⟩ : Cal)
       )
      : Option Cal).bind fun c1 =>
     guardO (o1.calls.length + [c1].length ≤ 4294967296) <|
     (m_post_Net_all_h (⟨(o1.posts.set ((no1).toNat) (⟨e2.up, e2.stamp, e2.value, (IntKind.i64.wrap (e2.turns + 1)), (some (⟨(IntKind.i64.wrap (e2.turns + 1)), (o1.calls.length : Int), write1, false, (⟨0, 0, 0⟩ : Stamp), value1, (List.replicate ((o1.posts.length : Int)).toNat (false : Bool))⟩ : Work))⟩ : Pst)), o1.messages, (o1.calls ++ [c1]), (IntKind.i64.wrap (o1.clock + 1))⟩ : Net) (⟨1, no1, 0, (IntKind.i64.wrap (e2.turns + 1)), (⟨0, 0, 0⟩ : Stamp), 0⟩ : Msg)).bind fun r1 =>
     some (0, r1)
     )
    )
   )
  )
  (fun w1 =>
  some (9, (⟨(o1.posts.set ((no1).toNat) (⟨e2.up, e2.stamp, e2.value, e2.turns, (some w1)⟩ : Pst)), o1.messages, o1.calls, o1.clock⟩ : Net))
  )
noncomputable def m_post_Net_Write_h (o1 : Net) (no1 : Int) (value1 : Int) : Option (Int × Net) :=
 (m_post_Net_at_h o1 no1).bind fun r1 =>
 cond (decide (¬r1.1 = 0))
  (
  some (r1.1, r1.2)
  )
  (
  cond ((decide (value1 < 1)) || (decide (1000000 < value1)))
   (
   some (2, r1.2)
   )
   (
   (m_post_Net_begin_h r1.2 no1 true value1).bind fun r2 =>
   some (r2.1, r2.2)
   )
  )
noncomputable def m_post_Net_Messages_h (o1 : Net) : Option ((List Msg) × Net) :=
 (m_post_Net_ok_h o1).bind fun r1 =>
 cond (!r1.1)
  (
  some ([], r1.2)
  )
  (
  guardO (r1.2.messages.length ≤ 4294967296) <|
  some (r1.2.messages, r1.2)
  )
noncomputable def m_post_Net_message_h (o1 : Net) (i1 : Int) : Option (Int × Net) :=
 (m_post_Net_ok_h o1).bind fun r1 =>
 cond (!r1.1)
  (
  some (1, r1.2)
  )
  (
  cond ((decide (i1 < 0)) || (decide ((r1.2.messages.length : Int) ≤ i1)))
   (
   some (4, r1.2)
   )
   (
   some (0, r1.2)
   )
  )
noncomputable def m_cmp_isNaN_131 (x1 : Int) : Option Bool :=
 some (decide (¬x1 = x1))
noncomputable def m_cmp_Compare_108 (x1 : Int) (y1 : Int) : Option Int :=
 (m_cmp_isNaN_131 x1).bind fun r1 =>
 (m_cmp_isNaN_131 y1).bind fun r2 =>
 cond r1
  (
  cond r2
   (
   some 0
   )
   (
   some (-1)
   )
  )
  (
  cond r2
   (
   some 1
   )
   (
   cond (decide (x1 < y1))
    (
    some (-1)
    )
    (
    cond (decide (y1 < x1))
     (
     some 1
     )
     (
     some 0
     )
    )
   )
  )
noncomputable def m_cmp_Or_107_l1 (vals1 : (List Int)) : Int → Option (Int ⊕ (Unit ⊕ Int)) := fun v1 =>
 cond (decide (v1 < (vals1.length : Int)))
  (
  (idx vals1 v1).bind fun e1 =>
  cond (decide (¬e1 = 0))
   (
   some (.inr (.inr e1))
   )
   (
   some (.inl (IntKind.i64.wrap (v1 + 1)))
   )
  )
  (
  some (.inr (.inl ()))
  )
noncomputable def m_cmp_Or_107 (vals1 : (List Int)) : Option Int :=
 (
 (
  (
  (iter (m_cmp_Or_107_l1 vals1) 0).bind fun x_7 => match x_7 with
    | (.inl y1) => some (.inl y1)
    | (.inr y2) => some (.inr y2)
  )
  : Option (Unit ⊕ Int)).bind fun o_1 => match o_1 with
   | (.inl _) =>
     some 0
   | (.inr y3) => some y3
 )
noncomputable def m_post_greater (a1 : Stamp) (b1 : Stamp) : Option Bool :=
 (m_cmp_Compare_108 a1.No b1.No).bind fun r1 =>
 (m_cmp_Compare_108 a1.Post b1.Post).bind fun r2 =>
 (m_cmp_Compare_108 a1.Turn b1.Turn).bind fun r3 =>
 (m_cmp_Or_107 [r1, r2, r3]).bind fun r4 =>
 some (decide (0 < r4))
noncomputable def m_post_work_majority_h_l1 (o1 : Work) : (Int × Int) → Option ((Int × Int) ⊕ Int) := fun (n2, v1) =>
 cond (decide (v1 < (o1.answered.length : Int)))
  (
  (
   (idx o1.answered v1).bind fun e1 =>
   cond e1
    (
    some (IntKind.i64.wrap (n2 + 1))
    )
    (
    some n2
    )
   : Option Int).bind fun n3 =>
  some (.inl (n3, (IntKind.i64.wrap (v1 + 1))))
  )
  (
  some (.inr n2)
  )
noncomputable def m_post_work_majority_h (o1 : Work) : Option (Bool × Work) :=
 (
  (iter (m_post_work_majority_h_l1 o1) (0, 0)).bind fun x_7 =>
  some x_7
  : Option Int).bind fun n1 =>
 some ((decide ((o1.answered.length : Int) < (IntKind.i64.wrap (2 * n1)))), o1)
noncomputable def m_post_Net_told_h (o1 : Net) (k1 : Int) (m1 : Msg) : Option Net :=
 (idx o1.posts k1).bind fun e1 =>
 optB e1.work
  (
  some (⟨(o1.posts.set ((k1).toNat) (⟨e1.up, e1.stamp, e1.value, e1.turns, none⟩ : Pst)), o1.messages, o1.calls, o1.clock⟩ : Net)
  )
  (fun w1 =>
  cond (decide (¬w1.turn = m1.Turn))
   (
   some (⟨(o1.posts.set ((k1).toNat) (⟨e1.up, e1.stamp, e1.value, e1.turns, (some w1)⟩ : Pst)), o1.messages, o1.calls, o1.clock⟩ : Net)
   )
   (
   cond w1.puts
    (
    some (⟨(o1.posts.set ((k1).toNat) (⟨e1.up, e1.stamp, e1.value, e1.turns, (some (⟨w1.turn, w1.call, w1.write, true, w1.stamp, w1.value, w1.answered⟩ : Work))⟩ : Pst)), o1.messages, o1.calls, o1.clock⟩ : Net)
    )
    (
    (idx w1.answered m1.From).bind fun e2 =>
    cond e2
     (
     some (⟨(o1.posts.set ((k1).toNat) (⟨e1.up, e1.stamp, e1.value, e1.turns, (some (⟨w1.turn, w1.call, w1.write, false, w1.stamp, w1.value, w1.answered⟩ : Work))⟩ : Pst)), o1.messages, o1.calls, o1.clock⟩ : Net)
     )
     (
     (idx w1.answered m1.From).bind fun e3 =>
     (
      (m_post_greater m1.Stamp w1.stamp).bind fun r1 =>
      cond r1
       (
       cond (!w1.write)
        (
        some (m1.Stamp.No, m1.Stamp.Post, m1.Stamp.Turn, m1.Value)
        )
        (
        some (m1.Stamp.No, m1.Stamp.Post, m1.Stamp.Turn, w1.value)
        )
       )
       (
       some (w1.stamp.No, w1.stamp.Post, w1.stamp.Turn, w1.value)
       )
      : Option (Int × Int × Int × Int)).bind fun (c1, c2, c3, c4) =>
     (m_post_work_majority_h (⟨w1.turn, w1.call, w1.write, false, (⟨c1, c2, c3⟩ : Stamp), c4, (w1.answered.set (m1.From).toNat true)⟩ : Work)).bind fun r2 =>
     cond (!r2.1)
      (
      some (⟨(o1.posts.set ((k1).toNat) (⟨e1.up, e1.stamp, e1.value, e1.turns, (some r2.2)⟩ : Pst)), o1.messages, o1.calls, o1.clock⟩ : Net)
      )
      (
      (
       cond r2.2.write
        (
        some ((IntKind.i64.wrap (r2.2.stamp.No + 1)), m1.To, r2.2.turn)
        )
        (
        some (r2.2.stamp.No, r2.2.stamp.Post, r2.2.stamp.Turn)
        )
       : Option (Int × Int × Int)).bind fun (c5, c6, c7) =>
      guardO (0 ≤ (o1.posts.length : Int) ∧ (o1.posts.length : Int) ≤ 4294967296) <|
      (m_post_Net_all_h (⟨(o1.posts.set ((k1).toNat) (⟨e1.up, e1.stamp, e1.value, e1.turns, (some (⟨r2.2.turn, r2.2.call, r2.2.write, true, (⟨c5, c6, c7⟩ : Stamp), r2.2.value, (List.replicate ((o1.posts.length : Int)).toNat (false : Bool))⟩ : Work))⟩ : Pst)), o1.messages, o1.calls, o1.clock⟩ : Net) (⟨3, m1.To, 0, r2.2.turn, (⟨c5, c6, c7⟩ : Stamp), r2.2.value⟩ : Msg)).bind fun r3 =>
      some r3
      )
     )
    )
   )
  )
noncomputable def m_post_Net_take_h (o1 : Net) (k1 : Int) (m1 : Msg) : Option Net :=
 cond (decide (m1.Kind = 1))
  (
  (idx o1.posts k1).bind fun e1 =>
  (m_post_Net_send_h o1 (⟨2, m1.To, m1.From, m1.Turn, e1.stamp, e1.value⟩ : Msg)).bind fun r1 =>
  some r1
  )
  (
  cond (decide (m1.Kind = 2))
   (
   (m_post_Net_told_h o1 k1 m1).bind fun r2 =>
   some r2
   )
   (
   cond (decide (m1.Kind = 3))
    (
    (
     (idx o1.posts k1).bind fun e2 =>
     (m_post_greater m1.Stamp e2.stamp).bind fun r3 =>
     cond r3
      (
      (idx o1.posts k1).bind fun e3 =>
      optB e3.work
       (
       some (o1.posts.set ((k1).toNat) (⟨e3.up, m1.Stamp, m1.Value, e3.turns, none⟩ : Pst))
       )
       (fun w1 =>
       some (o1.posts.set ((k1).toNat) (⟨e3.up, m1.Stamp, m1.Value, e3.turns, (some w1)⟩ : Pst))
       )
      )
      (
      some o1.posts
      )
     : Option (List Pst)).bind fun L1 =>
    (m_post_Net_send_h (⟨L1, o1.messages, o1.calls, o1.clock⟩ : Net) (⟨4, m1.To, m1.From, m1.Turn, (⟨0, 0, 0⟩ : Stamp), 0⟩ : Msg)).bind fun r4 =>
    some r4
    )
    (
    cond (decide (m1.Kind = 4))
     (
     (idx o1.posts k1).bind fun e4 =>
     optB e4.work
      (
      some (⟨(o1.posts.set ((k1).toNat) (⟨e4.up, e4.stamp, e4.value, e4.turns, none⟩ : Pst)), o1.messages, o1.calls, o1.clock⟩ : Net)
      )
      (fun w2 =>
      cond (decide (¬w2.turn = m1.Turn))
       (
       some (⟨(o1.posts.set ((k1).toNat) (⟨e4.up, e4.stamp, e4.value, e4.turns, (some w2)⟩ : Pst)), o1.messages, o1.calls, o1.clock⟩ : Net)
       )
       (
       cond (!w2.puts)
        (
        some (⟨(o1.posts.set ((k1).toNat) (⟨e4.up, e4.stamp, e4.value, e4.turns, (some w2)⟩ : Pst)), o1.messages, o1.calls, o1.clock⟩ : Net)
        )
        (
        (idx w2.answered m1.From).bind fun e5 =>
        cond e5
         (
         some (⟨(o1.posts.set ((k1).toNat) (⟨e4.up, e4.stamp, e4.value, e4.turns, (some w2)⟩ : Pst)), o1.messages, o1.calls, o1.clock⟩ : Net)
         )
         (
         (idx w2.answered m1.From).bind fun e6 =>
         (m_post_work_majority_h (⟨w2.turn, w2.call, w2.write, w2.puts, w2.stamp, w2.value, (w2.answered.set (m1.From).toNat true)⟩ : Work)).bind fun r5 =>
         cond r5.1
          (
          (idx o1.calls r5.2.call).bind fun e7 =>
          (idx (o1.calls.set (r5.2.call).toNat (⟨e7.Post, e7.Write, r5.2.value, e7.Start, e7.End⟩ : Cal)) r5.2.call).bind fun e8 =>
          some (⟨(o1.posts.set ((k1).toNat) (⟨e4.up, e4.stamp, e4.value, e4.turns, none⟩ : Pst)), o1.messages, (o1.calls.set (r5.2.call).toNat (⟨e8.Post, e8.Write, e8.Value, e8.Start, o1.clock⟩ : Cal)), o1.clock⟩ : Net)
          )
          (
          some (⟨(o1.posts.set ((k1).toNat) (⟨e4.up, e4.stamp, e4.value, e4.turns, (some r5.2)⟩ : Pst)), o1.messages, o1.calls, o1.clock⟩ : Net)
          )
         )
        )
       )
      )
     )
     (
     some o1
     )
    )
   )
  )
noncomputable def m_post_Net_Deliver_h (o1 : Net) (i1 : Int) : Option (Int × Net) :=
 (m_post_Net_message_h o1 i1).bind fun r1 =>
 cond (decide (¬r1.1 = 0))
  (
  some (r1.1, r1.2)
  )
  (
  (idx r1.2.messages i1).bind fun e1 =>
  guardO (delOk r1.2.messages i1 (IntKind.i64.wrap (i1 + 1)) = true) <|
  (
   (idx r1.2.posts e1.To).bind fun e2 =>
   cond e2.up
    (
    (m_post_Net_take_h (⟨r1.2.posts, (delT r1.2.messages i1 (IntKind.i64.wrap (i1 + 1))), r1.2.calls, (IntKind.i64.wrap (r1.2.clock + 1))⟩ : Net) e1.To e1).bind fun r2 =>
    some (r2.clock, r2.posts, r2.messages, r2.calls)
    )
    (
    some ((IntKind.i64.wrap (r1.2.clock + 1)), r1.2.posts, (delT r1.2.messages i1 (IntKind.i64.wrap (i1 + 1))), r1.2.calls)
    )
   : Option (Int × (List Pst) × (List Msg) × (List Cal))).bind fun (c1, L1, L2, L3) =>
  some (0, (⟨L1, L2, L3, c1⟩ : Net))
  )
noncomputable def m_post_Net_Settle_h_l1 (limit1 : Int) : (Int × Int × (List Pst) × (List Msg) × (List Cal)) → Option ((Int × Int × (List Pst) × (List Msg) × (List Cal)) ⊕ (Int × Int × (List Pst) × (List Msg) × (List Cal))) := fun (n2, c2, L4, L5, L6) =>
 cond ((decide (n2 < limit1)) && (decide (0 < (L5.length : Int))))
  (
  (m_post_Net_Deliver_h (⟨L4, L5, L6, c2⟩ : Net) 0).bind fun r2 =>
  some (.inl ((IntKind.i64.wrap (n2 + 1)), r2.2.clock, r2.2.posts, r2.2.messages, r2.2.calls))
  )
  (
  some (.inr (n2, c2, L4, L5, L6))
  )
noncomputable def m_post_Net_Settle_h (o1 : Net) (limit1 : Int) : Option (Int × Int × Net) :=
 (m_post_Net_ok_h o1).bind fun r1 =>
 cond (!r1.1)
  (
  some (0, 1, r1.2)
  )
  (
  cond ((decide (limit1 < 0)) || (decide (100000 < limit1)))
   (
   some (0, 2, r1.2)
   )
   (
   (
    (iter (m_post_Net_Settle_h_l1 limit1) (0, r1.2.clock, r1.2.posts, r1.2.messages, r1.2.calls)).bind fun x_13 =>
    some x_13
    : Option (Int × Int × (List Pst) × (List Msg) × (List Cal))).bind fun (n1, c1, L1, L2, L3) =>
   some (n1, 0, (⟨L1, L2, L3, c1⟩ : Net))
   )
  )
noncomputable def m_post_Net_Read_h (o1 : Net) (no1 : Int) : Option (Int × Net) :=
 (m_post_Net_at_h o1 no1).bind fun r1 =>
 cond (decide (¬r1.1 = 0))
  (
  some (r1.1, r1.2)
  )
  (
  (m_post_Net_begin_h r1.2 no1 false 0).bind fun r2 =>
  some (r2.1, r2.2)
  )
noncomputable def m_post_Net_Calls_h (o1 : Net) : Option ((List Cal) × Net) :=
 (m_post_Net_ok_h o1).bind fun r1 =>
 cond (!r1.1)
  (
  some ([], r1.2)
  )
  (
  guardO (r1.2.calls.length ≤ 4294967296) <|
  some (r1.2.calls, r1.2)
  )
noncomputable def m_cocketlaw09_alive : Option Bool :=
 (m_post_New_h 3).bind fun r1 =>
 optB r1.1
  (
  cond (decide (¬r1.2 = 0))
   (
   some false
   )
   (
   some false
   )
  )
  (fun t1 =>
  cond (decide (¬r1.2 = 0))
   (
   some false
   )
   (
   (m_post_Net_Write_h t1 0 7).bind fun r2 =>
   cond (decide (¬r2.1 = 0))
    (
    some false
    )
    (
    (m_post_Net_Messages_h r2.2).bind fun r3 =>
    cond (decide (¬(r3.1.length : Int) = 3))
     (
     some false
     )
     (
     (m_post_Net_Settle_h r3.2 100).bind fun r4 =>
     cond (decide (¬r4.2.1 = 0))
      (
      some false
      )
      (
      cond (decide (¬r4.1 = 12))
       (
       some false
       )
       (
       (m_post_Net_Read_h r4.2.2 1).bind fun r5 =>
       cond (decide (¬r5.1 = 0))
        (
        some false
        )
        (
        (m_post_Net_Settle_h r5.2 100).bind fun r6 =>
        (m_post_Net_Calls_h r6.2.2).bind fun r7 =>
        cond (decide (r6.2.1 = 0))
         (
         cond (decide ((r7.1.length : Int) = 2))
          (
          (idx r7.1 0).bind fun e1 =>
          cond e1.Write
           (
           cond (decide (e1.Start = 1))
            (
            (idx r7.1 1).bind fun e2 =>
            cond (decide (e2.Value = 7))
             (
             some (decide (e2.Start < e2.End))
             )
             (
             some false
             )
            )
            (
            some false
            )
           )
           (
           some false
           )
          )
          (
          some false
          )
         )
         (
         some false
         )
        )
       )
      )
     )
    )
   )
  )
noncomputable def m_post_Net_ok_hn : Option Bool :=
 some false
noncomputable def m_post_Net_Settle_hn (limit1 : Int) : Option (Int × Int) :=
 (m_post_Net_ok_hn).bind fun r1 =>
 some (0, 1)
noncomputable def m_post_Net_at_hn (no1 : Int) : Option Int :=
 (m_post_Net_ok_hn).bind fun r1 =>
 some 1
noncomputable def m_post_Net_Kept_hn (no1 : Int) : Option (Stamp × Int × Int) :=
 (m_post_Net_at_hn no1).bind fun r1 =>
 some ((⟨0, 0, 0⟩ : Stamp), 0, 1)
noncomputable def m_post_Net_Write_hn (no1 : Int) (value1 : Int) : Option Int :=
 (m_post_Net_at_hn no1).bind fun r1 =>
 some 1
noncomputable def m_post_Net_Read_hn (no1 : Int) : Option Int :=
 (m_post_Net_at_hn no1).bind fun r1 =>
 some 1
noncomputable def m_post_Net_message_hn (i1 : Int) : Option Int :=
 (m_post_Net_ok_hn).bind fun r1 =>
 some 1
noncomputable def m_post_Net_Deliver_hn (i1 : Int) : Option Int :=
 (m_post_Net_message_hn i1).bind fun r1 =>
 some 1
noncomputable def m_post_Net_Drop_hn (i1 : Int) : Option Int :=
 (m_post_Net_message_hn i1).bind fun r1 =>
 some 1
noncomputable def m_post_Net_Repeat_hn (i1 : Int) : Option Int :=
 (m_post_Net_message_hn i1).bind fun r1 =>
 some 1
noncomputable def m_post_Net_turn_hn (no1 : Int) (up1 : Bool) : Option Int :=
 (m_post_Net_at_hn no1).bind fun r1 =>
 some 1
noncomputable def m_post_Net_Crash_hn (no1 : Int) : Option Int :=
 (m_post_Net_turn_hn no1 false).bind fun r1 =>
 some 1
noncomputable def m_post_Net_Start_hn (no1 : Int) : Option Int :=
 (m_post_Net_turn_hn no1 true).bind fun r1 =>
 some 1
noncomputable def m_post_Net_Calls_hn : Option (List Cal) :=
 (m_post_Net_ok_hn).bind fun r1 =>
 some []
noncomputable def m_post_Net_Repeat_h (o1 : Net) (i1 : Int) : Option (Int × Net) :=
 (m_post_Net_message_h o1 i1).bind fun r1 =>
 cond (decide (¬r1.1 = 0))
  (
  some (r1.1, r1.2)
  )
  (
  cond (decide (500 ≤ (r1.2.messages.length : Int)))
   (
   some (8, r1.2)
   )
   (
   (idx r1.2.messages i1).bind fun e1 =>
   guardO (r1.2.messages.length + [e1].length ≤ 4294967296) <|
   some (0, (⟨r1.2.posts, (r1.2.messages ++ [e1]), r1.2.calls, r1.2.clock⟩ : Net))
   )
  )
noncomputable def m_post_Net_Drop_h (o1 : Net) (i1 : Int) : Option (Int × Net) :=
 (m_post_Net_message_h o1 i1).bind fun r1 =>
 cond (decide (¬r1.1 = 0))
  (
  some (r1.1, r1.2)
  )
  (
  guardO (delOk r1.2.messages i1 (IntKind.i64.wrap (i1 + 1)) = true) <|
  some (0, (⟨r1.2.posts, (delT r1.2.messages i1 (IntKind.i64.wrap (i1 + 1))), r1.2.calls, r1.2.clock⟩ : Net))
  )
noncomputable def m_cocketlaw09_act_hn (a1 : Act) : Option Unit :=
 (
  cond (decide ((a1.Kind.tmod 12) = 0))
   (
   some (decide ((a1.Kind.tmod 12) = 0))
   )
   (
   some (decide ((a1.Kind.tmod 12) = 1))
   )
  : Option Bool).bind fun v1 =>
 cond v1
  (
  (m_post_Net_Write_hn a1.A a1.B).bind fun r1 =>
  some ()
  )
  (
  (
   cond (decide ((a1.Kind.tmod 12) = 2))
    (
    some (decide ((a1.Kind.tmod 12) = 2))
    )
    (
    some (decide ((a1.Kind.tmod 12) = 3))
    )
   : Option Bool).bind fun v2 =>
  cond v2
   (
   (m_post_Net_Read_hn a1.A).bind fun r2 =>
   some ()
   )
   (
   cond (decide ((a1.Kind.tmod 12) = 7))
    (
    (m_post_Net_Drop_hn a1.A).bind fun r3 =>
    some ()
    )
    (
    cond (decide ((a1.Kind.tmod 12) = 8))
     (
     (m_post_Net_Repeat_hn a1.A).bind fun r4 =>
     some ()
     )
     (
     cond (decide ((a1.Kind.tmod 12) = 9))
      (
      (m_post_Net_Crash_hn a1.A).bind fun r5 =>
      some ()
      )
      (
      cond (decide ((a1.Kind.tmod 12) = 10))
       (
       (m_post_Net_Start_hn a1.A).bind fun r6 =>
       some ()
       )
       (
       cond (decide ((a1.Kind.tmod 12) = 11))
        (
        (m_post_Net_Settle_hn a1.A).bind fun r7 =>
        some ()
        )
        (
        (m_post_Net_Deliver_hn a1.A).bind fun r8 =>
        some ()
        )
       )
      )
     )
    )
   )
  )
noncomputable def m_post_Net_turn_h (o1 : Net) (no1 : Int) (up1 : Bool) : Option (Int × Net) :=
 (m_post_Net_at_h o1 no1).bind fun r1 =>
 cond (decide (¬r1.1 = 0))
  (
  some (r1.1, r1.2)
  )
  (
  (idx r1.2.posts no1).bind fun e1 =>
  cond (e1.up == up1)
   (
   some (9, r1.2)
   )
   (
   (idx r1.2.posts no1).bind fun e2 =>
   optB e2.work
    (
    some (0, (⟨(r1.2.posts.set ((no1).toNat) (⟨up1, e2.stamp, e2.value, e2.turns, none⟩ : Pst)), r1.2.messages, r1.2.calls, r1.2.clock⟩ : Net))
    )
    (fun w1 =>
    some (0, (⟨(r1.2.posts.set ((no1).toNat) (⟨up1, e2.stamp, e2.value, e2.turns, none⟩ : Pst)), r1.2.messages, r1.2.calls, r1.2.clock⟩ : Net))
    )
   )
  )
noncomputable def m_post_Net_Crash_h (o1 : Net) (no1 : Int) : Option (Int × Net) :=
 (m_post_Net_turn_h o1 no1 false).bind fun r1 =>
 some (r1.1, r1.2)
noncomputable def m_post_Net_Start_h (o1 : Net) (no1 : Int) : Option (Int × Net) :=
 (m_post_Net_turn_h o1 no1 true).bind fun r1 =>
 some (r1.1, r1.2)
noncomputable def m_cocketlaw09_act_h (o1 : Net) (a1 : Act) : Option Net :=
 (
  cond (decide ((a1.Kind.tmod 12) = 0))
   (
   some (decide ((a1.Kind.tmod 12) = 0))
   )
   (
   some (decide ((a1.Kind.tmod 12) = 1))
   )
  : Option Bool).bind fun v1 =>
 cond v1
  (
  (m_post_Net_Write_h o1 a1.A a1.B).bind fun r1 =>
  some r1.2
  )
  (
  (
   cond (decide ((a1.Kind.tmod 12) = 2))
    (
    some (decide ((a1.Kind.tmod 12) = 2))
    )
    (
    some (decide ((a1.Kind.tmod 12) = 3))
    )
   : Option Bool).bind fun v2 =>
  cond v2
   (
   (m_post_Net_Read_h o1 a1.A).bind fun r2 =>
   some r2.2
   )
   (
   cond (decide ((a1.Kind.tmod 12) = 7))
    (
    (m_post_Net_Drop_h o1 a1.A).bind fun r3 =>
    some r3.2
    )
    (
    cond (decide ((a1.Kind.tmod 12) = 8))
     (
     (m_post_Net_Repeat_h o1 a1.A).bind fun r4 =>
     some r4.2
     )
     (
     cond (decide ((a1.Kind.tmod 12) = 9))
      (
      (m_post_Net_Crash_h o1 a1.A).bind fun r5 =>
      some r5.2
      )
      (
      cond (decide ((a1.Kind.tmod 12) = 10))
       (
       (m_post_Net_Start_h o1 a1.A).bind fun r6 =>
       some r6.2
       )
       (
       cond (decide ((a1.Kind.tmod 12) = 11))
        (
        (m_post_Net_Settle_h o1 a1.A).bind fun r7 =>
        some r7.2.2
        )
        (
        (m_post_Net_Deliver_h o1 a1.A).bind fun r8 =>
        some r8.2
        )
       )
      )
     )
    )
   )
  )
noncomputable def m_post_Net_Kept_h (o1 : Net) (no1 : Int) : Option (Stamp × Int × Int × Net) :=
 (m_post_Net_at_h o1 no1).bind fun r1 =>
 cond (decide (¬r1.1 = 0))
  (
  some ((⟨0, 0, 0⟩ : Stamp), 0, r1.1, r1.2)
  )
  (
  (idx r1.2.posts no1).bind fun e1 =>
  some (e1.stamp, e1.value, 0, r1.2)
  )
noncomputable def m_cocketlaw09_lower (a1 : Stamp) (b1 : Stamp) : Option Bool :=
 cond (decide (¬a1.No = b1.No))
  (
  some (decide (a1.No < b1.No))
  )
  (
  some ((decide (a1.Post < b1.Post)) || ((decide (a1.Post = b1.Post)) && (decide (a1.Turn < b1.Turn))))
  )
noncomputable def m_cocketlaw09_PostStamps_l2 (n1 : Int) (l1 : (List Act)) (i1 : Int) : ((List Stamp) × (List Int)) → Option (((List Stamp) × (List Int)) ⊕ (((List Stamp) × (List Int)) ⊕ Bool)) := fun (L9, L10) =>
 cond (decide (0 < n1))
  (
  (m_post_Net_Kept_hn 0).bind fun r5 =>
  (idx l1 i1).bind fun e2 =>
  some (.inr (.inr false))
  )
  (
  some (.inr (.inl (L9, L10)))
  )
noncomputable def m_cocketlaw09_PostStamps_l4 (L7 : (List Stamp)) (L8 : (List Int)) (p1 : Int) : Int → Option (Int ⊕ (Unit ⊕ Bool)) := fun q1 =>
 cond (decide (q1 < p1))
  (
  (idx L7 p1).bind fun e3 =>
  (idx L7 q1).bind fun e4 =>
  cond ((e3.No == e4.No) && ((e3.Post == e4.Post) && (e3.Turn == e4.Turn)))
   (
   (idx L8 p1).bind fun e5 =>
   (idx L8 q1).bind fun e6 =>
   cond (decide (¬e5 = e6))
    (
    some (.inr (.inr false))
    )
    (
    some (.inl (IntKind.i64.wrap (q1 + 1)))
    )
   )
   (
   some (.inl (IntKind.i64.wrap (q1 + 1)))
   )
  )
  (
  some (.inr (.inl ()))
  )
noncomputable def m_cocketlaw09_PostStamps_l3 (n1 : Int) (L7 : (List Stamp)) (L8 : (List Int)) : Int → Option (Int ⊕ (((List Stamp) × (List Int)) ⊕ Bool)) := fun p1 =>
 cond (decide (p1 < n1))
  (
  (
  (
   (
   (iter (m_cocketlaw09_PostStamps_l4 L7 L8 p1) 0).bind fun x_61 => match x_61 with
     | (.inl y3) => some (.inl y3)
     | (.inr y4) => some (.inr y4)
   )
   : Option (Unit ⊕ Bool)).bind fun o_55 => match o_55 with
    | (.inl _) =>
      some (.inl (IntKind.i64.wrap (p1 + 1)))
    | (.inr y5) => some (.inr (.inr y5))
  )
  )
  (
  some (.inr (.inl (L7, L8)))
  )
noncomputable def m_cocketlaw09_PostStamps_l1 (n1 : Int) (l1 : (List Act)) : (Int × (List Stamp) × (List Int)) → Option ((Int × (List Stamp) × (List Int)) ⊕ (((List Stamp) × (List Int)) ⊕ Bool)) := fun (i1, L3, L4) =>
 cond (decide (i1 < (l1.length : Int)))
  (
  (
  (
   (idx l1 i1).bind fun e1 =>
   (m_cocketlaw09_act_hn e1).bind fun r4 =>
   (
   (
    (
    (iter (m_cocketlaw09_PostStamps_l2 n1 l1 i1) (L3, L4)).bind fun x_34 => match x_34 with
      | (.inl y1) => some (.inl y1)
      | (.inr y2) => some (.inr y2)
    )
    : Option (((List Stamp) × (List Int)) ⊕ Bool)).bind fun o_28 => match o_28 with
     | (.inl (L7, L8)) =>
       (
       (iter (m_cocketlaw09_PostStamps_l3 n1 L7 L8) 0).bind fun x_51 => match x_51 with
         | (.inl y6) => some (.inl y6)
         | (.inr y7) => some (.inr y7)
       )
     | (.inr y8) => some (.inr y8)
   )
   : Option (((List Stamp) × (List Int)) ⊕ Bool)).bind fun o_21 => match o_21 with
    | (.inl (L5, L6)) =>
      some (.inl ((IntKind.i64.wrap (i1 + 1)), L5, L6))
    | (.inr y9) => some (.inr (.inr y9))
  )
  )
  (
  some (.inr (.inl (L3, L4)))
  )
noncomputable def m_cocketlaw09_PostStamps_l6 (L1 : (List Stamp)) (L2 : (List Int)) (r6 : (List Cal)) (p2 : Int) : (Bool × Int) → Option ((Bool × Int) ⊕ Bool) := fun (written2, i2) =>
 cond (decide (i2 < (r6.length : Int)))
  (
  (
   cond written2
    (
    some true
    )
    (
    (idx r6 i2).bind fun e9 =>
    cond e9.Write
     (
     (idx L1 p2).bind fun e10 =>
     cond (decide (e9.Post = e10.Post))
      (
      (idx L2 p2).bind fun e11 =>
      some (decide (e9.Value = e11))
      )
      (
      some false
      )
     )
     (
     some false
     )
    )
   : Option Bool).bind fun written3 =>
  some (.inl (written3, (IntKind.i64.wrap (i2 + 1))))
  )
  (
  some (.inr written2)
  )
noncomputable def m_cocketlaw09_PostStamps_l5 (n1 : Int) (L1 : (List Stamp)) (L2 : (List Int)) (r6 : (List Cal)) : Int → Option (Int ⊕ (Unit ⊕ Bool)) := fun p2 =>
 cond (decide (p2 < n1))
  (
  (
  (
   (idx L2 p2).bind fun e7 =>
   ((cond (decide (e7 = 0))
    (
     (idx L1 p2).bind fun e8 =>
     some ((e8.No == 0) && ((e8.Post == 0) && (e8.Turn == 0)))
    )
    (some false)
   ) : Option Bool).bind fun b1 =>
   (
    (iter (m_cocketlaw09_PostStamps_l6 L1 L2 r6 p2) (b1, 0)).bind fun x_113 =>
    some x_113
    : Option Bool).bind fun written1 =>
   cond (!written1)
    (
    some (.inr false)
    )
    (
    some (.inl ())
    )
   : Option (Unit ⊕ Bool)).bind fun o_95 => match o_95 with
    | (.inl _) =>
      some (.inl (IntKind.i64.wrap (p2 + 1)))
    | (.inr y12) => some (.inr (.inr y12))
  )
  )
  (
  some (.inr (.inl ()))
  )
noncomputable def m_cocketlaw09_PostStamps_l8 (n1 : Int) (l1 : (List Act)) (i3 : Int) : (Int × Int × (List Pst) × (List Msg) × (List Cal) × (List Stamp) × (List Int)) → Option ((Int × Int × (List Pst) × (List Msg) × (List Cal) × (List Stamp) × (List Int)) ⊕ ((Int × (List Pst) × (List Msg) × (List Cal) × (List Stamp) × (List Int)) ⊕ Bool)) := fun (p3, c5, L31, L32, L33, L34, L35) =>
 cond (decide (p3 < n1))
  (
  (m_post_Net_Kept_h (⟨L31, L32, L33, c5⟩ : Net) p3).bind fun r9 =>
  (idx l1 i3).bind fun e13 =>
  cond (decide (¬r9.2.2.1 = 0))
   (
   some (.inr (.inr false))
   )
   (
   (idx L34 p3).bind fun e14 =>
   (m_cocketlaw09_lower r9.1 e14).bind fun r10 =>
   cond r10
    (
    some (.inr (.inr false))
    )
    (
    cond ((r9.1.No == e14.No) && ((r9.1.Post == e14.Post) && (r9.1.Turn == e14.Turn)))
     (
     (idx L35 p3).bind fun e15 =>
     cond (decide (¬r9.2.1 = e15))
      (
      some (.inr (.inr false))
      )
      (
      cond ((decide ((e13.Kind.tmod 12) = 9)) || (decide ((e13.Kind.tmod 12) = 10)))
       (
       cond (!((r9.1.No == e14.No) && ((r9.1.Post == e14.Post) && (r9.1.Turn == e14.Turn))))
        (
        some (.inr (.inr false))
        )
        (
        (idx L34 p3).bind fun e16 =>
        (idx L35 p3).bind fun e17 =>
        some (.inl ((IntKind.i64.wrap (p3 + 1)), r9.2.2.2.clock, r9.2.2.2.posts, r9.2.2.2.messages, r9.2.2.2.calls, (L34.set (p3).toNat r9.1), (L35.set (p3).toNat r9.2.1)))
        )
       )
       (
       (idx L34 p3).bind fun e18 =>
       (idx L35 p3).bind fun e19 =>
       some (.inl ((IntKind.i64.wrap (p3 + 1)), r9.2.2.2.clock, r9.2.2.2.posts, r9.2.2.2.messages, r9.2.2.2.calls, (L34.set (p3).toNat r9.1), (L35.set (p3).toNat r9.2.1)))
       )
      )
     )
     (
     cond ((decide ((e13.Kind.tmod 12) = 9)) || (decide ((e13.Kind.tmod 12) = 10)))
      (
      cond (!((r9.1.No == e14.No) && ((r9.1.Post == e14.Post) && (r9.1.Turn == e14.Turn))))
       (
       some (.inr (.inr false))
       )
       (
       (idx L34 p3).bind fun e20 =>
       (idx L35 p3).bind fun e21 =>
       some (.inl ((IntKind.i64.wrap (p3 + 1)), r9.2.2.2.clock, r9.2.2.2.posts, r9.2.2.2.messages, r9.2.2.2.calls, (L34.set (p3).toNat r9.1), (L35.set (p3).toNat r9.2.1)))
       )
      )
      (
      (idx L34 p3).bind fun e22 =>
      (idx L35 p3).bind fun e23 =>
      some (.inl ((IntKind.i64.wrap (p3 + 1)), r9.2.2.2.clock, r9.2.2.2.posts, r9.2.2.2.messages, r9.2.2.2.calls, (L34.set (p3).toNat r9.1), (L35.set (p3).toNat r9.2.1)))
      )
     )
    )
   )
  )
  (
  some (.inr (.inl (c5, L31, L32, L33, L34, L35)))
  )
noncomputable def m_cocketlaw09_PostStamps_l10 (L29 : (List Stamp)) (L30 : (List Int)) (p4 : Int) : Int → Option (Int ⊕ (Unit ⊕ Bool)) := fun q2 =>
 cond (decide (q2 < p4))
  (
  (idx L29 p4).bind fun e24 =>
  (idx L29 q2).bind fun e25 =>
  cond ((e24.No == e25.No) && ((e24.Post == e25.Post) && (e24.Turn == e25.Turn)))
   (
   (idx L30 p4).bind fun e26 =>
   (idx L30 q2).bind fun e27 =>
   cond (decide (¬e26 = e27))
    (
    some (.inr (.inr false))
    )
    (
    some (.inl (IntKind.i64.wrap (q2 + 1)))
    )
   )
   (
   some (.inl (IntKind.i64.wrap (q2 + 1)))
   )
  )
  (
  some (.inr (.inl ()))
  )
noncomputable def m_cocketlaw09_PostStamps_l9 (n1 : Int) (c4 : Int) (L26 : (List Pst)) (L27 : (List Msg)) (L28 : (List Cal)) (L29 : (List Stamp)) (L30 : (List Int)) : Int → Option (Int ⊕ ((Int × (List Pst) × (List Msg) × (List Cal) × (List Stamp) × (List Int)) ⊕ Bool)) := fun p4 =>
 cond (decide (p4 < n1))
  (
  (
  (
   (
   (iter (m_cocketlaw09_PostStamps_l10 L29 L30 p4) 0).bind fun x_239 => match x_239 with
     | (.inl y19) => some (.inl y19)
     | (.inr y20) => some (.inr y20)
   )
   : Option (Unit ⊕ Bool)).bind fun o_233 => match o_233 with
    | (.inl _) =>
      some (.inl (IntKind.i64.wrap (p4 + 1)))
    | (.inr y21) => some (.inr (.inr y21))
  )
  )
  (
  some (.inr (.inl (c4, L26, L27, L28, L29, L30)))
  )
noncomputable def m_cocketlaw09_PostStamps_l7 (n1 : Int) (l1 : (List Act)) : (Int × Int × (List Pst) × (List Msg) × (List Cal) × (List Stamp) × (List Int)) → Option ((Int × Int × (List Pst) × (List Msg) × (List Cal) × (List Stamp) × (List Int)) ⊕ ((Int × (List Pst) × (List Msg) × (List Cal) × (List Stamp) × (List Int)) ⊕ Bool)) := fun (i3, c2, L16, L17, L18, L19, L20) =>
 cond (decide (i3 < (l1.length : Int)))
  (
  (
  (
   (idx l1 i3).bind fun e12 =>
   (m_cocketlaw09_act_h (⟨L16, L17, L18, c2⟩ : Net) e12).bind fun r8 =>
   (
   (
    (
    (iter (m_cocketlaw09_PostStamps_l8 n1 l1 i3) (0, r8.clock, r8.posts, r8.messages, r8.calls, L19, L20)).bind fun x_163 => match x_163 with
      | (.inl y17) => some (.inl y17)
      | (.inr y18) => some (.inr y18)
    )
    : Option ((Int × (List Pst) × (List Msg) × (List Cal) × (List Stamp) × (List Int)) ⊕ Bool)).bind fun o_157 => match o_157 with
     | (.inl (c4, L26, L27, L28, L29, L30)) =>
       (
       (iter (m_cocketlaw09_PostStamps_l9 n1 c4 L26 L27 L28 L29 L30) 0).bind fun x_229 => match x_229 with
         | (.inl y22) => some (.inl y22)
         | (.inr y23) => some (.inr y23)
       )
     | (.inr y24) => some (.inr y24)
   )
   : Option ((Int × (List Pst) × (List Msg) × (List Cal) × (List Stamp) × (List Int)) ⊕ Bool)).bind fun o_150 => match o_150 with
    | (.inl (c3, L21, L22, L23, L24, L25)) =>
      some (.inl ((IntKind.i64.wrap (i3 + 1)), c3, L21, L22, L23, L24, L25))
    | (.inr y25) => some (.inr (.inr y25))
  )
  )
  (
  some (.inr (.inl (c2, L16, L17, L18, L19, L20)))
  )
noncomputable def m_cocketlaw09_PostStamps_l12 (L14 : (List Stamp)) (L15 : (List Int)) (r11 : ((List Cal) × Net)) (p5 : Int) : (Bool × Int) → Option ((Bool × Int) ⊕ Bool) := fun (written5, i4) =>
 cond (decide (i4 < (r11.1.length : Int)))
  (
  (
   cond written5
    (
    some true
    )
    (
    (idx r11.1 i4).bind fun e30 =>
    cond e30.Write
     (
     (idx L14 p5).bind fun e31 =>
     cond (decide (e30.Post = e31.Post))
      (
      (idx L15 p5).bind fun e32 =>
      some (decide (e30.Value = e32))
      )
      (
      some false
      )
     )
     (
     some false
     )
    )
   : Option Bool).bind fun written6 =>
  some (.inl (written6, (IntKind.i64.wrap (i4 + 1))))
  )
  (
  some (.inr written5)
  )
noncomputable def m_cocketlaw09_PostStamps_l11 (n1 : Int) (L14 : (List Stamp)) (L15 : (List Int)) (r11 : ((List Cal) × Net)) : Int → Option (Int ⊕ (Unit ⊕ Bool)) := fun p5 =>
 cond (decide (p5 < n1))
  (
  (
  (
   (idx L15 p5).bind fun e28 =>
   ((cond (decide (e28 = 0))
    (
     (idx L14 p5).bind fun e29 =>
     some ((e29.No == 0) && ((e29.Post == 0) && (e29.Turn == 0)))
    )
    (some false)
   ) : Option Bool).bind fun b2 =>
   (
    (iter (m_cocketlaw09_PostStamps_l12 L14 L15 r11 p5) (b2, 0)).bind fun x_291 =>
    some x_291
    : Option Bool).bind fun written4 =>
   cond (!written4)
    (
    some (.inr false)
    )
    (
    some (.inl ())
    )
   : Option (Unit ⊕ Bool)).bind fun o_273 => match o_273 with
    | (.inl _) =>
      some (.inl (IntKind.i64.wrap (p5 + 1)))
    | (.inr y28) => some (.inr (.inr y28))
  )
  )
  (
  some (.inr (.inl ()))
  )
noncomputable def m_cocketlaw09_PostStamps (n1 : Int) (l1 : (List Act)) : Option Bool :=
 cond (decide (120 < (l1.length : Int)))
  (
  (m_cocketlaw09_alive).bind fun r1 =>
  some r1
  )
  (
  (m_post_New_h n1).bind fun r2 =>
  optB r2.1
   (
   cond (decide (¬r2.2 = 0))
    (
    (m_cocketlaw09_alive).bind fun r3 =>
    some r3
    )
    (
    guardO (0 ≤ n1 ∧ n1 ≤ 4294967296) <|
    guardO (0 ≤ n1 ∧ n1 ≤ 4294967296) <|
    (
    (
     (
     (iter (m_cocketlaw09_PostStamps_l1 n1 l1) (0, (List.replicate (n1).toNat (⟨0, 0, 0⟩ : Stamp)), (List.replicate (n1).toNat (0 : Int)))).bind fun x_17 => match x_17 with
       | (.inl y10) => some (.inl y10)
       | (.inr y11) => some (.inr y11)
     )
     : Option (((List Stamp) × (List Int)) ⊕ Bool)).bind fun o_11 => match o_11 with
      | (.inl (L1, L2)) =>
        (m_post_Net_Calls_hn).bind fun r6 =>
        (
        (
         (
         (iter (m_cocketlaw09_PostStamps_l5 n1 L1 L2 r6) 0).bind fun x_91 => match x_91 with
           | (.inl y13) => some (.inl y13)
           | (.inr y14) => some (.inr y14)
         )
         : Option (Unit ⊕ Bool)).bind fun o_85 => match o_85 with
          | (.inl _) =>
            (m_cocketlaw09_alive).bind fun r7 =>
            some r7
          | (.inr y15) => some y15
        )
      | (.inr y16) => some y16
    )
    )
   )
   (fun t1 =>
   cond (decide (¬r2.2 = 0))
    (
    some false
    )
    (
    guardO (0 ≤ n1 ∧ n1 ≤ 4294967296) <|
    guardO (0 ≤ n1 ∧ n1 ≤ 4294967296) <|
    (
    (
     (
     (iter (m_cocketlaw09_PostStamps_l7 n1 l1) (0, t1.clock, t1.posts, t1.messages, t1.calls, (List.replicate (n1).toNat (⟨0, 0, 0⟩ : Stamp)), (List.replicate (n1).toNat (0 : Int)))).bind fun x_146 => match x_146 with
       | (.inl y26) => some (.inl y26)
       | (.inr y27) => some (.inr y27)
     )
     : Option ((Int × (List Pst) × (List Msg) × (List Cal) × (List Stamp) × (List Int)) ⊕ Bool)).bind fun o_140 => match o_140 with
      | (.inl (c1, L11, L12, L13, L14, L15)) =>
        (m_post_Net_Calls_h (⟨L11, L12, L13, c1⟩ : Net)).bind fun r11 =>
        (
        (
         (
         (iter (m_cocketlaw09_PostStamps_l11 n1 L14 L15 r11) 0).bind fun x_269 => match x_269 with
           | (.inl y29) => some (.inl y29)
           | (.inr y30) => some (.inr y30)
         )
         : Option (Unit ⊕ Bool)).bind fun o_263 => match o_263 with
          | (.inl _) =>
            (m_cocketlaw09_alive).bind fun r12 =>
            some r12
          | (.inr y31) => some y31
        )
      | (.inr y32) => some y32
    )
    )
   )
  )
end Go.Pv

