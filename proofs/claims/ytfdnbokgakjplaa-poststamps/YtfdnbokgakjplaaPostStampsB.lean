/- PostStamps answers true for every input, and its arguments read as they did: as its row says (Rows), under the conditions of the row, no more. Part 2 of 8: by one AI agent and its programs; no person has read it. -/
import Derived.Test.YtfdnbokgakjplaaPostStampsA
import Derived.KernelRfl
import Derived.OrdersIn
set_option linter.unusedSimpArgs false
set_option linter.unusedVariables false
set_option linter.all false

namespace Go.Pv
def zeroPV (y : Ty) : Option PV :=
  match y.zero with
  | some z => if z.cells.size = y.size ∧ 1 ≤ y.size then ofZero z else none
  | none => none
def zeroOk (y : Ty) : Bool :=
  match y.zero with
  | some z => z.cells.size == y.size && 1 ≤ y.size
  | none => false
def sliceElem (P : Program) (t : TypeId) : Option (TypeId × Ty) :=
  match tyOf P t with
  | some y => match y.desc with
    | .slice e => match tyOf P e with
      | some z => some (e, z)
      | none => none
    | _ => none
  | none => none
theorem sliceElem_parts {P : Program} {t e : TypeId} {z : Ty} (h : sliceElem P t = some (e, z)) : ∃ y, tyOf P t = some y ∧ y.desc = .slice e ∧ tyOf P e = some z := by
  unfold sliceElem at h
  split at h <;> try (simp at h; done)
  rename_i y hy
  split at h <;> try (simp at h; done)
  rename_i e' he
  split at h <;> simp only [Option.some.injEq, Prod.mk.injEq, reduceCtorEq] at h
  rename_i z' hz
  obtain ⟨rfl, rfl⟩ := h
  exact ⟨y, hy, he, hz⟩
def allocV (P : Program) (σ : St) (dst : Option Tmp) (e : TypeId) : Option St :=
  match tyOf P e with
  | some y => match zeroPV y with
    | some p => some (({ σ with heap := hput σ.heap (fresh σ.heap) (rowOf e y.size p) } : St).put dst (.ptr (fresh σ.heap) 0 0))
    | none => none
  | none => none
def boxV (P : Program) (σ : St) (dst : Option Tmp) (e : TypeId) (x : PV) : Option St :=
  match tyOf P e with
  | some y => match pvCells x with
    | some l => if l.length = y.size ∧ 1 ≤ y.size then some (({ σ with heap := hput σ.heap (fresh σ.heap) (rowOf e y.size x) } : St).put dst (.ptr (fresh σ.heap) 0 0)) else none
    | none => none
  | none => none
def storeV (P : Program) (σ : St) (dst : Option Tmp) (t : TypeId) (ad x : PV) : Option St :=
  match ad with
  | .ptr r i off => match hget σ.heap r with
    | some row => match row.els[i]? with
      | some e => match tyOf P t, pvCells x, elemStore row.k e off x with
        | some y, some l, some e' => if l.length = y.size then some (({ σ with heap := hput σ.heap r { row with els := row.els.set i e' } } : St).put dst .any) else none
        | _, _, _ => none
      | none => none
    | none => none
  | _ => none
def makeV (P : Program) (σ : St) (dst : Option Tmp) (t : TypeId) (l c : PV) : Option St :=
  match sliceElem P t, l, c with
  | some (e, z), .d (.int _ n), .d (.int _ m) => match zeroPV z with
    | some zp => guardO (0 ≤ n ∧ n ≤ m ∧ (z.bytes : Int) * m ≤ 281474976710656 ∧ m ≤ 9223372036854775807)
        (some (({ σ with heap := hput σ.heap (fresh σ.heap) { e, k := z.size, els := List.replicate n.toNat zp } } : St).put dst (.slc (fresh σ.heap) 0 n.toNat)))
    | none => none
  | _, _, _ => none
def litV (P : Program) (σ : St) (dst : Option Tmp) (t : TypeId) (len : Nat) (parts : List (Nat × Operand)) : Option St :=
  match sliceElem P t with
  | some (e, z) => if zeroOk z = true ∧ inOrder 0 parts = true ∧ parts.length = len ∧ sizesOk z.size (evalL σ (parts.map (·.2))) = true ∧ len * z.size ≤ 16777216 then
      some (({ σ with heap := hput σ.heap (fresh σ.heap) { e, k := z.size, els := evalL σ (parts.map (·.2)) } } : St).put dst (.slc (fresh σ.heap) 0 len)) else none
  | none => none
def appV (P : Program) (σ : St) (dst : Option Tmp) (t : TypeId) (s x : PV) : Option St :=
  match sliceElem P t, s with
  | some (e, z), .slc r 0 n => match hget σ.heap r with
    | some row => match srcV z.size σ.heap x with
      | some L => if zeroOk z = true ∧ row.e = e ∧ row.k = z.size ∧ 1000 ≤ r then
          guardO (row.els.length = n ∧ n + L.length ≤ 9223372036854775807 ∧ (n + L.length) * z.bytes ≤ 140737488355328) (some ((σ.grown r row L).put dst (.slc r 0 (n + L.length)))) else none
      | none => none
    | none => none
  | _, _ => none
def appendV (P : Program) (σ : St) (dst : Option Tmp) (types : List TypeId) (args : List PV) : Option St :=
  match types, args with
  | [t, t'], [s, x] => if t = t' then appV P σ dst t s x else none
  | _, _ => none
def memCall (P : Program) (σ : St) (dst : Option Tmp) (c : Call) : Option St :=
  match c.callee with
  | .builtin b => match b with
    | .append => appendV P σ dst c.argTypes.toList (evalL σ c.args.toList)
    | _ => none
  | _ => none
def memOp (P : Program) (σ : St) (dst : Option Tmp) : Op → Option St
  | .alloc e => allocV P σ dst e
  | .box e x => boxV P σ dst e (σ.eval x)
  | .store t ad x => storeV P σ dst t (σ.eval ad) (σ.eval x)
  | .makeSlice t l c => makeV P σ dst t (σ.eval l) (σ.eval c)
  | .buildSlice t len parts => litV P σ dst t len parts.toList
  | .call c => memCall P σ dst c
  | _ => none
def step1 (P : Program) (G : List (Nat × PD)) (σ : St) (dst : Option Tmp) (op : Op) : Option St :=
  match pureOp P G σ op with
  | some v => some (σ.put dst v)
  | none => memOp P σ dst op
def vcStep (P : Program) (G : List (Nat × PD)) (ro : Option Nat) (N : Nat) (o : Oper) (σ : St) (K : St → Prop) : Prop :=
  dstOk N o.dst ∧ match step1 P G σ o.dst o.op with
    | some σ' => K σ'
    | none => OpT P G ro N o σ K
def vcOp (P : Program) (G : List (Nat × PD)) (ro : Option Nat) (N : Nat) (ds : List (Option Tmp)) (o : Oper) (σ : St) (K : St → Prop) : Prop :=
  match o.guard with
  | none => vcStep P G ro N o σ K
  | some (j, want) => match gval σ ds j with
    | some b => (b = want → vcStep P G ro N o σ K) ∧ (b ≠ want → dstOk N o.dst ∧ K (σ.put o.dst .any))
    | none => False
section
variable {P : Program} {G : List (Nat × PD)} {ro : Option Nat} {N : Nat} {σ : St} {o : Oper} {K : St → Prop} {ops : Array Oper}
theorem zeroPV_some {y : Ty} {p : PV} (h : zeroPV y = some p) : ∃ z, y.zero = some z ∧ ofZero z = some p ∧ z.cells.size = y.size ∧ 1 ≤ y.size := by
  unfold zeroPV at h
  split at h <;> try (simp at h; done)
  rename_i z hz
  split at h <;> try (simp at h; done)
  rename_i hc
  exact ⟨z, hz, h, hc.1, hc.2⟩
theorem zeroOk_some {y : Ty} (h : zeroOk y = true) : ∃ z, y.zero = some z ∧ z.cells.size = y.size ∧ 1 ≤ y.size := by
  unfold zeroOk at h
  split at h <;> try (simp at h; done)
  rename_i z hz
  simp only [Bool.and_eq_true, beq_iff_eq, decide_eq_true_eq] at h
  exact ⟨z, hz, h.1, h.2⟩
theorem OpT.mem {σ' : St} (h : memOp P σ o.dst o.op = some σ') (hd : dstOk N o.dst) (hK : K σ') : OpT P G ro N o σ K := by
  unfold memOp at h
  split at h <;> (try (simp at h; done)) <;> rename_i ho
  · unfold allocV at h
    split at h <;> try (simp at h; done)
    rename_i y hy
    split at h <;> simp only [Option.some.injEq, reduceCtorEq] at h
    rename_i p hp; subst h
    obtain ⟨z, h1, h2, h3, h4⟩ := zeroPV_some hp
    exact OpT.alloc ho hy h1 h2 ⟨h3, h4⟩ hd (hget_fresh _) (fresh_ge _) hK
  · unfold boxV at h
    split at h <;> try (simp at h; done)
    rename_i y hy
    split at h <;> try (simp at h; done)
    rename_i l hl
    split at h <;> simp only [Option.some.injEq, reduceCtorEq] at h
    rename_i hc; subst h
    exact OpT.box ho hy hl hc hd (hget_fresh _) (fresh_ge _) hK
  · unfold storeV at h
    split at h <;> try (simp at h; done)
    rename_i r i off ha
    split at h <;> try (simp at h; done)
    rename_i row hx
    split at h <;> try (simp at h; done)
    rename_i e he
    split at h <;> try (simp at h; done)
    rename_i y l e' hy hl hs
    split at h <;> simp only [Option.some.injEq, reduceCtorEq] at h
    rename_i hc; subst h
    exact OpT.store ho hy ha hx he hs hl hc hd hK
  · unfold makeV at h
    split at h <;> try (simp at h; done)
    rename_i e z kl n kc m hse hl hc
    split at h <;> try (simp at h; done)
    rename_i zp hzp
    obtain ⟨⟨h0, h1, h2, h3⟩, h⟩ := guardO_some h
    simp only [Option.some.injEq] at h; subst h
    obtain ⟨y, hy, hde, he⟩ := sliceElem_parts hse
    obtain ⟨zv, h4, h5, h6, h7⟩ := zeroPV_some hzp
    exact OpT.makeSlice ho hy hde he h4 h5 h6 h7 hl hc h0 h1 h2 h3 hd (hget_fresh _) (fresh_ge _) hK
  · unfold litV at h
    split at h <;> try (simp at h; done)
    rename_i e z hse
    split at h <;> simp only [Option.some.injEq, reduceCtorEq] at h
    rename_i hc; subst h
    obtain ⟨h1, h2, h3, h4, h5⟩ := hc
    obtain ⟨y, hy, hde, he⟩ := sliceElem_parts hse
    obtain ⟨zv, h6, h7, h8⟩ := zeroOk_some h1
    exact OpT.buildSlice ho hy hde he h6 h7 h8 h2 h3 h4 h5 hd (hget_fresh _) (fresh_ge _) hK
  · rename_i c
    unfold memCall at h
    split at h <;> try (simp at h; done)
    rename_i b hb
    split at h <;> try (simp at h; done)
    unfold appendV at h
    split at h <;> try (simp at h; done)
    rename_i t t' s x hts hargs
    split at h <;> try (simp at h; done)
    rename_i htt; subst htt
    unfold appV at h
    split at h <;> try (simp at h; done)
    rename_i e z r n hse
    split at h <;> try (simp at h; done)
    rename_i row hx
    split at h <;> try (simp at h; done)
    rename_i L hL
    split at h <;> try (simp at h; done)
    rename_i hc
    obtain ⟨⟨h4, h5, h6⟩, h⟩ := guardO_some h
    simp only [Option.some.injEq] at h; subst h
    obtain ⟨h7, h8, h9, h10⟩ := hc
    obtain ⟨y, hy, hde, he⟩ := sliceElem_parts hse
    obtain ⟨zv, h11, h12, h13⟩ := zeroOk_some h7
    have hc1 : c.argTypes = #[t, t] := by
      rcases hct : c.argTypes with ⟨l⟩
      rw [hct] at hts; simp at hts; rw [hts]
    have hc2 : ∃ so xo, c.args = #[so, xo] ∧ σ.eval so = .slc r 0 n ∧ σ.eval xo = x := by
      rcases hca : c.args with ⟨l⟩
      rw [hca] at hargs
      match l, hargs with
      | [so, xo], hargs => simp [evalL] at hargs; exact ⟨so, xo, rfl, hargs.1, hargs.2⟩
      | [], hargs => simp [evalL] at hargs
      | [_], hargs => simp [evalL] at hargs
      | _ :: _ :: _ :: _, hargs => simp [evalL] at hargs
    obtain ⟨so, xo, hc3, hso, hxo⟩ := hc2
    have hcall : o.op = .call { callee := .builtin .append, args := #[so, xo], argTypes := #[t, t] } := by
      rw [ho]; cases c; simp only at hb hc1 hc3; subst hb; subst hc1; subst hc3; rfl
    exact OpT.append hcall hy hde he h11 h12 h13 hso hx h4 h8 h9 h10 (hxo ▸ hL) h5 h6 hd hK
theorem OpT.vc (h : vcStep P G ro N o σ K) : OpT P G ro N o σ K := by
  obtain ⟨hd, h⟩ := h
  split at h
  · rename_i σ' hs
    unfold step1 at hs
    split at hs
    · rename_i v hv
      simp only [Option.some.injEq] at hs; subst hs
      exact OpT.pure hv hd h
    · exact OpT.mem hs hd h
  · exact h
theorem AOps.cons {rest : List Oper} {Q : St → Prop} (h : ∀ K : St → Prop, (∀ σ, AOps P G ro N ops rest σ Q → K σ) → vcOp P G ro N (dsts ops) o σ K) : AOps P G ro N ops (o :: rest) σ Q := by
  have h := h _ (fun _ h => h)
  unfold vcOp at h
  split at h
  · rename_i hg; exact AOps.step hg (OpT.vc h)
  · rename_i j want hg
    split at h
    · rename_i b hb
      by_cases hbw : b = want
      · exact AOps.guarded hg hb (fun hb => OpT.vc (h.1 hb)) (h.1 hbw).1 (fun hb => (h.2 hb).2)
      · exact AOps.guarded hg hb (fun hb => OpT.vc (h.1 hb)) (h.2 hbw).1 (fun hb => (h.2 hb).2)
    · exact h.elim
end
end Go.Pv

namespace Go.Pv
attribute [go_sem] dsts vcOp vcStep step1 pureOp memOp memCall appendV appV litV makeV storeV boxV allocV callV builtinV ifaceV nilCheckV makeFuncV sliceOpV buildV extractV indexAddrV fieldV fieldAddrV
  isAggPV isAggD convV unV intBin shiftBin strBin pickV evalL evalP sliceV optInt loadV idxAddr addrAdd fillV layAt mkAgg allD mkB ofConst St.eval St.put eget eput hget hput fresh freshLow rowOf
  elemStore isByte srcV inOrder sizesOk gval dstOk guardO_pos frz frzL frzT allD_map argOk argsOk resL resV Post.then Post.inBlock Fin FinG frzTL argEnv envLe heapLe envRefs heapRefs refsIn refsInL refsInL_d refsInL_rep refsInL_append dOnly dOnlyL
  St.grown PV.kill killL ekill hkill
@[go_sem] theorem pvCells_0 (b : Bool) : pvCells (.d (.bool b)) = some [.d (.bool b)] := rfl
@[go_sem] theorem pvCells_1 (k : IntKind) (n : Int) : pvCells (.d (.int k n)) = some [.d (.int k n)] := rfl
@[go_sem] theorem pvCells_2 (s : ByteArray) : pvCells (.d (.str s)) = some [.d (.str s)] := rfl
@[go_sem] theorem pvCells_3  : pvCells (.d .nilptr) = some [.d .nilptr] := rfl
@[go_sem] theorem pvCells_4  : pvCells (.d .nilslice) = some [.d .nilslice] := rfl
@[go_sem] theorem pvCells_5  : pvCells (.d .nilmap) = some [.d .nilmap] := rfl
@[go_sem] theorem pvCells_6  : pvCells (.d .nilfunc) = some [.d .nilfunc] := rfl
@[go_sem] theorem pvCells_7  : pvCells (.d .niliface) = some [.d .niliface] := rfl
@[go_sem] theorem pvCells_8 (f : Go.Fn) : pvCells (.d (.fn f)) = some [.d (.fn f)] := rfl
@[go_sem] theorem pvCells_9 (k : Nat) (l : List PD) : pvCells (.d (.imm k l)) = some [.d (.imm k l)] := rfl
@[go_sem] theorem pvCells_10 (u : TypeId) (x : PD) : pvCells (.d (.iface u x)) = some [.d (.iface u x)] := rfl
@[go_sem] theorem pvCells_11 (b : Bool) : pvCells (.b (.bool b)) = some [.b (.bool b)] := rfl
@[go_sem] theorem pvCells_12 (k : IntKind) (n : Int) : pvCells (.b (.int k n)) = some [.b (.int k n)] := rfl
@[go_sem] theorem pvCells_13 (s : ByteArray) : pvCells (.b (.str s)) = some [.b (.str s)] := rfl
@[go_sem] theorem pvCells_14 (k : Nat) (l : List PD) : pvCells (.b (.imm k l)) = some [.b (.imm k l)] := rfl
@[go_sem] theorem pvCells_15 (u : TypeId) (x : PD) : pvCells (.b (.iface u x)) = some [.b (.iface u x)] := rfl
@[go_sem] theorem pvCells_16  : pvCells (.b .nilslice) = some [.b .nilslice] := rfl
@[go_sem] theorem pvCells_17 (r i o : Nat) : pvCells (.ptr r i o) = some [.ptr r i o] := rfl
@[go_sem] theorem pvCells_18 (k : Nat) (l : List PD) (i o : Nat) : pvCells (.dptr k l i o) = some [.dptr k l i o] := rfl
@[go_sem] theorem pvCells_19 (k : Nat) (l : List PD) (i o : Nat) : pvCells (.bptr k l i o) = some [.bptr k l i o] := rfl
@[go_sem] theorem pvCells_20 (g : Nat) : pvCells (.glob g) = some [.glob g] := rfl
@[go_sem] theorem pvCells_V (v : Value) : pvCells (.val v) = some [.val v] := rfl
@[go_sem] theorem pvCells_21 (r lo n : Nat) : pvCells (.slc r lo n) = some [.slc r lo n] := rfl
@[go_sem] theorem pvCells_22 (f : Go.Fn) (l : List PV) : pvCells (.func f l) = some [.func f l] := rfl
@[go_sem] theorem pvCells_23 (r : Nat) : pvCells (.mp r) = some [.mp r] := rfl
@[go_sem] theorem pvCells_a0 (cs : List PD) : pvCells (.d (.agg cs)) = some (cs.map .d) := rfl
@[go_sem] theorem pvCells_a1 (cs : List PD) : pvCells (.b (.agg cs)) = some (cs.map mkB) := rfl
@[go_sem] theorem pvCells_a2 (cs : List PV) : pvCells (.agg cs) = some cs := rfl
@[go_sem] theorem binV_int (P : Program) (op : BinOp) (t : TypeId) (k k' : IntKind) (a b : Int) : binV P op t (.d (.int k a)) (.d (.int k' b)) = match op with | .shl | .shr => (shiftBin op k a b).map .d | _ => if k = k' then (intBin op k a b).map .d else none := rfl
@[go_sem] theorem binV_str (P : Program) (op : BinOp) (t : TypeId) (a b : ByteArray) : binV P op t (.d (.str a)) (.d (.str b)) = (strBin op a b).map .d := rfl
@[go_sem] theorem binV_eql0 (P : Program) (t : TypeId)   : binV P .eql t (.d .nilslice) (.d .nilslice) = (tyOf P t).bind fun z => (nilEq z.desc (.d .nilslice) (.d .nilslice)).map fun r => .d (.bool (r)) := rfl
@[go_sem] theorem binV_neq0 (P : Program) (t : TypeId)   : binV P .neq t (.d .nilslice) (.d .nilslice) = (tyOf P t).bind fun z => (nilEq z.desc (.d .nilslice) (.d .nilslice)).map fun r => .d (.bool (!r)) := rfl
@[go_sem] theorem nilEq_0 (e : TypeId)   : nilEq (.slice e) (.d .nilslice) (.d .nilslice) = some true := rfl
@[go_sem] theorem binV_eql1 (P : Program) (t : TypeId) (r lo n : Nat)  : binV P .eql t (.slc r lo n) (.d .nilslice) = (tyOf P t).bind fun z => (nilEq z.desc (.slc r lo n) (.d .nilslice)).map fun r => .d (.bool (r)) := rfl
@[go_sem] theorem binV_neq1 (P : Program) (t : TypeId) (r lo n : Nat)  : binV P .neq t (.slc r lo n) (.d .nilslice) = (tyOf P t).bind fun z => (nilEq z.desc (.slc r lo n) (.d .nilslice)).map fun r => .d (.bool (!r)) := rfl
@[go_sem] theorem nilEq_1 (e : TypeId) (r lo n : Nat)  : nilEq (.slice e) (.slc r lo n) (.d .nilslice) = guardO (n ≠ 0) (some false) := rfl
@[go_sem] theorem binV_eql2 (P : Program) (t : TypeId)  (r lo n : Nat) : binV P .eql t (.d .nilslice) (.slc r lo n) = (tyOf P t).bind fun z => (nilEq z.desc (.d .nilslice) (.slc r lo n)).map fun r => .d (.bool (r)) := rfl
@[go_sem] theorem binV_neq2 (P : Program) (t : TypeId)  (r lo n : Nat) : binV P .neq t (.d .nilslice) (.slc r lo n) = (tyOf P t).bind fun z => (nilEq z.desc (.d .nilslice) (.slc r lo n)).map fun r => .d (.bool (!r)) := rfl
@[go_sem] theorem nilEq_2 (e : TypeId)  (r lo n : Nat) : nilEq (.slice e) (.d .nilslice) (.slc r lo n) = guardO (n ≠ 0) (some false) := rfl
@[go_sem] theorem binV_eql3 (P : Program) (t : TypeId) (k : Nat) (els : List PD)  : binV P .eql t (.d (.imm k els)) (.d .nilslice) = (tyOf P t).bind fun z => (nilEq z.desc (.d (.imm k els)) (.d .nilslice)).map fun r => .d (.bool (r)) := rfl
@[go_sem] theorem binV_neq3 (P : Program) (t : TypeId) (k : Nat) (els : List PD)  : binV P .neq t (.d (.imm k els)) (.d .nilslice) = (tyOf P t).bind fun z => (nilEq z.desc (.d (.imm k els)) (.d .nilslice)).map fun r => .d (.bool (!r)) := rfl
@[go_sem] theorem nilEq_3 (e : TypeId) (k : Nat) (els : List PD)  : nilEq (.slice e) (.d (.imm k els)) (.d .nilslice) = guardO (els ≠ []) (some false) := rfl
@[go_sem] theorem binV_eql4 (P : Program) (t : TypeId)  (k : Nat) (els : List PD) : binV P .eql t (.d .nilslice) (.d (.imm k els)) = (tyOf P t).bind fun z => (nilEq z.desc (.d .nilslice) (.d (.imm k els))).map fun r => .d (.bool (r)) := rfl
@[go_sem] theorem binV_neq4 (P : Program) (t : TypeId)  (k : Nat) (els : List PD) : binV P .neq t (.d .nilslice) (.d (.imm k els)) = (tyOf P t).bind fun z => (nilEq z.desc (.d .nilslice) (.d (.imm k els))).map fun r => .d (.bool (!r)) := rfl
@[go_sem] theorem nilEq_4 (e : TypeId)  (k : Nat) (els : List PD) : nilEq (.slice e) (.d .nilslice) (.d (.imm k els)) = guardO (els ≠ []) (some false) := rfl
@[go_sem] theorem binV_eql5 (P : Program) (t : TypeId) (k : Nat) (els : List PD)  : binV P .eql t (.b (.imm k els)) (.d .nilslice) = (tyOf P t).bind fun z => (nilEq z.desc (.b (.imm k els)) (.d .nilslice)).map fun r => .d (.bool (r)) := rfl
@[go_sem] theorem binV_neq5 (P : Program) (t : TypeId) (k : Nat) (els : List PD)  : binV P .neq t (.b (.imm k els)) (.d .nilslice) = (tyOf P t).bind fun z => (nilEq z.desc (.b (.imm k els)) (.d .nilslice)).map fun r => .d (.bool (!r)) := rfl
@[go_sem] theorem nilEq_5 (e : TypeId) (k : Nat) (els : List PD)  : nilEq (.slice e) (.b (.imm k els)) (.d .nilslice) = guardO (els ≠ []) (some false) := rfl
@[go_sem] theorem binV_eql6 (P : Program) (t : TypeId)  (k : Nat) (els : List PD) : binV P .eql t (.d .nilslice) (.b (.imm k els)) = (tyOf P t).bind fun z => (nilEq z.desc (.d .nilslice) (.b (.imm k els))).map fun r => .d (.bool (r)) := rfl
@[go_sem] theorem binV_neq6 (P : Program) (t : TypeId)  (k : Nat) (els : List PD) : binV P .neq t (.d .nilslice) (.b (.imm k els)) = (tyOf P t).bind fun z => (nilEq z.desc (.d .nilslice) (.b (.imm k els))).map fun r => .d (.bool (!r)) := rfl
@[go_sem] theorem nilEq_6 (e : TypeId)  (k : Nat) (els : List PD) : nilEq (.slice e) (.d .nilslice) (.b (.imm k els)) = guardO (els ≠ []) (some false) := rfl
@[go_sem] theorem binV_eql7 (P : Program) (t : TypeId)   : binV P .eql t (.d .nilptr) (.d .nilptr) = (tyOf P t).bind fun z => (nilEq z.desc (.d .nilptr) (.d .nilptr)).map fun r => .d (.bool (r)) := rfl
@[go_sem] theorem binV_neq7 (P : Program) (t : TypeId)   : binV P .neq t (.d .nilptr) (.d .nilptr) = (tyOf P t).bind fun z => (nilEq z.desc (.d .nilptr) (.d .nilptr)).map fun r => .d (.bool (!r)) := rfl
@[go_sem] theorem nilEq_7 (e : TypeId)   : nilEq (.pointer e) (.d .nilptr) (.d .nilptr) = some true := rfl
@[go_sem] theorem binV_eql8 (P : Program) (t : TypeId) (r i o : Nat)  : binV P .eql t (.ptr r i o) (.d .nilptr) = (tyOf P t).bind fun z => (nilEq z.desc (.ptr r i o) (.d .nilptr)).map fun r => .d (.bool (r)) := rfl
@[go_sem] theorem binV_neq8 (P : Program) (t : TypeId) (r i o : Nat)  : binV P .neq t (.ptr r i o) (.d .nilptr) = (tyOf P t).bind fun z => (nilEq z.desc (.ptr r i o) (.d .nilptr)).map fun r => .d (.bool (!r)) := rfl
@[go_sem] theorem nilEq_8 (e : TypeId) (r i o : Nat)  : nilEq (.pointer e) (.ptr r i o) (.d .nilptr) = some false := rfl
@[go_sem] theorem binV_eql9 (P : Program) (t : TypeId)  (r i o : Nat) : binV P .eql t (.d .nilptr) (.ptr r i o) = (tyOf P t).bind fun z => (nilEq z.desc (.d .nilptr) (.ptr r i o)).map fun r => .d (.bool (r)) := rfl
@[go_sem] theorem binV_neq9 (P : Program) (t : TypeId)  (r i o : Nat) : binV P .neq t (.d .nilptr) (.ptr r i o) = (tyOf P t).bind fun z => (nilEq z.desc (.d .nilptr) (.ptr r i o)).map fun r => .d (.bool (!r)) := rfl
@[go_sem] theorem nilEq_9 (e : TypeId)  (r i o : Nat) : nilEq (.pointer e) (.d .nilptr) (.ptr r i o) = some false := rfl
@[go_sem] theorem binV_eql10 (P : Program) (t : TypeId)   : binV P .eql t (.d .nilfunc) (.d .nilfunc) = (tyOf P t).bind fun z => (nilEq z.desc (.d .nilfunc) (.d .nilfunc)).map fun r => .d (.bool (r)) := rfl
@[go_sem] theorem binV_neq10 (P : Program) (t : TypeId)   : binV P .neq t (.d .nilfunc) (.d .nilfunc) = (tyOf P t).bind fun z => (nilEq z.desc (.d .nilfunc) (.d .nilfunc)).map fun r => .d (.bool (!r)) := rfl
@[go_sem] theorem nilEq_10 (d : TypeDesc) (hd : (match d with | .func .. => true | _ => false) = true)   : nilEq d (.d .nilfunc) (.d .nilfunc) = some true := by cases d <;> first | rfl | cases hd
@[go_sem] theorem binV_eql11 (P : Program) (t : TypeId) (f : Go.Fn) (l : List PV)  : binV P .eql t (.func f l) (.d .nilfunc) = (tyOf P t).bind fun z => (nilEq z.desc (.func f l) (.d .nilfunc)).map fun r => .d (.bool (r)) := rfl
@[go_sem] theorem binV_neq11 (P : Program) (t : TypeId) (f : Go.Fn) (l : List PV)  : binV P .neq t (.func f l) (.d .nilfunc) = (tyOf P t).bind fun z => (nilEq z.desc (.func f l) (.d .nilfunc)).map fun r => .d (.bool (!r)) := rfl
@[go_sem] theorem nilEq_11 (d : TypeDesc) (hd : (match d with | .func .. => true | _ => false) = true) (f : Go.Fn) (l : List PV)  : nilEq d (.func f l) (.d .nilfunc) = some false := by cases d <;> first | rfl | cases hd
@[go_sem] theorem binV_eql12 (P : Program) (t : TypeId)  (f : Go.Fn) (l : List PV) : binV P .eql t (.d .nilfunc) (.func f l) = (tyOf P t).bind fun z => (nilEq z.desc (.d .nilfunc) (.func f l)).map fun r => .d (.bool (r)) := rfl
@[go_sem] theorem binV_neq12 (P : Program) (t : TypeId)  (f : Go.Fn) (l : List PV) : binV P .neq t (.d .nilfunc) (.func f l) = (tyOf P t).bind fun z => (nilEq z.desc (.d .nilfunc) (.func f l)).map fun r => .d (.bool (!r)) := rfl
@[go_sem] theorem nilEq_12 (d : TypeDesc) (hd : (match d with | .func .. => true | _ => false) = true)  (f : Go.Fn) (l : List PV) : nilEq d (.d .nilfunc) (.func f l) = some false := by cases d <;> first | rfl | cases hd
@[go_sem] theorem binV_eql13 (P : Program) (t : TypeId) (f : Go.Fn)  : binV P .eql t (.d (.fn f)) (.d .nilfunc) = (tyOf P t).bind fun z => (nilEq z.desc (.d (.fn f)) (.d .nilfunc)).map fun r => .d (.bool (r)) := rfl
@[go_sem] theorem binV_neq13 (P : Program) (t : TypeId) (f : Go.Fn)  : binV P .neq t (.d (.fn f)) (.d .nilfunc) = (tyOf P t).bind fun z => (nilEq z.desc (.d (.fn f)) (.d .nilfunc)).map fun r => .d (.bool (!r)) := rfl
@[go_sem] theorem nilEq_13 (d : TypeDesc) (hd : (match d with | .func .. => true | _ => false) = true) (f : Go.Fn)  : nilEq d (.d (.fn f)) (.d .nilfunc) = some false := by cases d <;> first | rfl | cases hd
@[go_sem] theorem binV_eql14 (P : Program) (t : TypeId)  (f : Go.Fn) : binV P .eql t (.d .nilfunc) (.d (.fn f)) = (tyOf P t).bind fun z => (nilEq z.desc (.d .nilfunc) (.d (.fn f))).map fun r => .d (.bool (r)) := rfl
@[go_sem] theorem binV_neq14 (P : Program) (t : TypeId)  (f : Go.Fn) : binV P .neq t (.d .nilfunc) (.d (.fn f)) = (tyOf P t).bind fun z => (nilEq z.desc (.d .nilfunc) (.d (.fn f))).map fun r => .d (.bool (!r)) := rfl
@[go_sem] theorem nilEq_14 (d : TypeDesc) (hd : (match d with | .func .. => true | _ => false) = true)  (f : Go.Fn) : nilEq d (.d .nilfunc) (.d (.fn f)) = some false := by cases d <;> first | rfl | cases hd
@[go_sem] theorem binV_eql15 (P : Program) (t : TypeId) (a : Bool) (b : Bool) : binV P .eql t (.d (.bool a)) (.d (.bool b)) = (tyOf P t).bind fun z => (nilEq z.desc (.d (.bool a)) (.d (.bool b))).map fun r => .d (.bool (r)) := rfl
@[go_sem] theorem binV_neq15 (P : Program) (t : TypeId) (a : Bool) (b : Bool) : binV P .neq t (.d (.bool a)) (.d (.bool b)) = (tyOf P t).bind fun z => (nilEq z.desc (.d (.bool a)) (.d (.bool b))).map fun r => .d (.bool (!r)) := rfl
@[go_sem] theorem nilEq_15  (a : Bool) (b : Bool) : nilEq (.bool) (.d (.bool a)) (.d (.bool b)) = some (a == b) := rfl
@[go_sem] theorem lenV_str (s : ByteArray) : lenV .string (.d (.str s)) = some (s.size : Int) := rfl
@[go_sem] theorem lenV_nil (e : TypeId) : lenV (.slice e) (.d .nilslice) = some 0 := rfl
@[go_sem] theorem lenV_imm (e : TypeId) (k : Nat) (els : List PD) : lenV (.slice e) (.d (.imm k els)) = some (els.length : Int) := rfl
@[go_sem] theorem lenV_bimm (e : TypeId) (k : Nat) (els : List PD) : lenV (.slice e) (.b (.imm k els)) = some (els.length : Int) := rfl
@[go_sem] theorem lenV_slc (e : TypeId) (r lo n : Nat) : lenV (.slice e) (.slc r lo n) = some (n : Int) := rfl
@[go_sem] theorem elemLoad_0 (P : Program) (t : TypeId) (b : Bool) (off : Nat) : elemLoad P t (.d (.bool b)) off = match tyOf P t with | none => none | some y => if isAggD y.desc = true then none else if off = 0 then some (.d (.bool b)) else none := rfl
@[go_sem] theorem elemLoad_1 (P : Program) (t : TypeId) (k : IntKind) (n : Int) (off : Nat) : elemLoad P t (.d (.int k n)) off = match tyOf P t with | none => none | some y => if isAggD y.desc = true then none else if off = 0 then some (.d (.int k n)) else none := rfl
@[go_sem] theorem elemLoad_2 (P : Program) (t : TypeId) (s : ByteArray) (off : Nat) : elemLoad P t (.d (.str s)) off = match tyOf P t with | none => none | some y => if isAggD y.desc = true then none else if off = 0 then some (.d (.str s)) else none := rfl
@[go_sem] theorem elemLoad_3 (P : Program) (t : TypeId)  (off : Nat) : elemLoad P t (.d .nilptr) off = match tyOf P t with | none => none | some y => if isAggD y.desc = true then none else if off = 0 then some (.d .nilptr) else none := rfl
@[go_sem] theorem elemLoad_4 (P : Program) (t : TypeId)  (off : Nat) : elemLoad P t (.d .nilslice) off = match tyOf P t with | none => none | some y => if isAggD y.desc = true then none else if off = 0 then some (.d .nilslice) else none := rfl
@[go_sem] theorem elemLoad_5 (P : Program) (t : TypeId)  (off : Nat) : elemLoad P t (.d .nilmap) off = match tyOf P t with | none => none | some y => if isAggD y.desc = true then none else if off = 0 then some (.d .nilmap) else none := rfl
@[go_sem] theorem elemLoad_6 (P : Program) (t : TypeId)  (off : Nat) : elemLoad P t (.d .nilfunc) off = match tyOf P t with | none => none | some y => if isAggD y.desc = true then none else if off = 0 then some (.d .nilfunc) else none := rfl
@[go_sem] theorem elemLoad_7 (P : Program) (t : TypeId)  (off : Nat) : elemLoad P t (.d .niliface) off = match tyOf P t with | none => none | some y => if isAggD y.desc = true then none else if off = 0 then some (.d .niliface) else none := rfl
@[go_sem] theorem elemLoad_8 (P : Program) (t : TypeId) (f : Go.Fn) (off : Nat) : elemLoad P t (.d (.fn f)) off = match tyOf P t with | none => none | some y => if isAggD y.desc = true then none else if off = 0 then some (.d (.fn f)) else none := rfl
@[go_sem] theorem elemLoad_9 (P : Program) (t : TypeId) (k : Nat) (l : List PD) (off : Nat) : elemLoad P t (.d (.imm k l)) off = match tyOf P t with | none => none | some y => if isAggD y.desc = true then none else if off = 0 then some (.d (.imm k l)) else none := rfl
@[go_sem] theorem elemLoad_10 (P : Program) (t : TypeId) (u : TypeId) (x : PD) (off : Nat) : elemLoad P t (.d (.iface u x)) off = match tyOf P t with | none => none | some y => if isAggD y.desc = true then none else if off = 0 then some (.d (.iface u x)) else none := rfl
@[go_sem] theorem elemLoad_11 (P : Program) (t : TypeId) (b : Bool) (off : Nat) : elemLoad P t (.b (.bool b)) off = match tyOf P t with | none => none | some y => if isAggD y.desc = true then none else if off = 0 then some (.b (.bool b)) else none := rfl
@[go_sem] theorem elemLoad_12 (P : Program) (t : TypeId) (k : IntKind) (n : Int) (off : Nat) : elemLoad P t (.b (.int k n)) off = match tyOf P t with | none => none | some y => if isAggD y.desc = true then none else if off = 0 then some (.b (.int k n)) else none := rfl
@[go_sem] theorem elemLoad_13 (P : Program) (t : TypeId) (s : ByteArray) (off : Nat) : elemLoad P t (.b (.str s)) off = match tyOf P t with | none => none | some y => if isAggD y.desc = true then none else if off = 0 then some (.b (.str s)) else none := rfl
@[go_sem] theorem elemLoad_14 (P : Program) (t : TypeId) (k : Nat) (l : List PD) (off : Nat) : elemLoad P t (.b (.imm k l)) off = match tyOf P t with | none => none | some y => if isAggD y.desc = true then none else if off = 0 then some (.b (.imm k l)) else none := rfl
@[go_sem] theorem elemLoad_15 (P : Program) (t : TypeId) (u : TypeId) (x : PD) (off : Nat) : elemLoad P t (.b (.iface u x)) off = match tyOf P t with | none => none | some y => if isAggD y.desc = true then none else if off = 0 then some (.b (.iface u x)) else none := rfl
@[go_sem] theorem elemLoad_16 (P : Program) (t : TypeId)  (off : Nat) : elemLoad P t (.b .nilslice) off = match tyOf P t with | none => none | some y => if isAggD y.desc = true then none else if off = 0 then some (.b .nilslice) else none := rfl
@[go_sem] theorem elemLoad_17 (P : Program) (t : TypeId) (r i o : Nat) (off : Nat) : elemLoad P t (.ptr r i o) off = match tyOf P t with | none => none | some y => if isAggD y.desc = true then none else if off = 0 then some (.ptr r i o) else none := rfl
@[go_sem] theorem elemLoad_18 (P : Program) (t : TypeId) (k : Nat) (l : List PD) (i o : Nat) (off : Nat) : elemLoad P t (.dptr k l i o) off = match tyOf P t with | none => none | some y => if isAggD y.desc = true then none else if off = 0 then some (.dptr k l i o) else none := rfl
@[go_sem] theorem elemLoad_19 (P : Program) (t : TypeId) (k : Nat) (l : List PD) (i o : Nat) (off : Nat) : elemLoad P t (.bptr k l i o) off = match tyOf P t with | none => none | some y => if isAggD y.desc = true then none else if off = 0 then some (.bptr k l i o) else none := rfl
@[go_sem] theorem elemLoad_20 (P : Program) (t : TypeId) (g : Nat) (off : Nat) : elemLoad P t (.glob g) off = match tyOf P t with | none => none | some y => if isAggD y.desc = true then none else if off = 0 then some (.glob g) else none := rfl
@[go_sem] theorem elemLoad_V (P : Program) (t : TypeId) (v : Value) (off : Nat) : elemLoad P t (.val v) off = match tyOf P t with | none => none | some y => if isAggD y.desc = true then none else if off = 0 then some (.val v) else none := rfl
@[go_sem] theorem elemLoad_21 (P : Program) (t : TypeId) (r lo n : Nat) (off : Nat) : elemLoad P t (.slc r lo n) off = match tyOf P t with | none => none | some y => if isAggD y.desc = true then none else if off = 0 then some (.slc r lo n) else none := rfl
@[go_sem] theorem elemLoad_22 (P : Program) (t : TypeId) (f : Go.Fn) (l : List PV) (off : Nat) : elemLoad P t (.func f l) off = match tyOf P t with | none => none | some y => if isAggD y.desc = true then none else if off = 0 then some (.func f l) else none := rfl
@[go_sem] theorem elemLoad_23 (P : Program) (t : TypeId) (r : Nat) (off : Nat) : elemLoad P t (.mp r) off = match tyOf P t with | none => none | some y => if isAggD y.desc = true then none else if off = 0 then some (.mp r) else none := rfl
@[go_sem] theorem elemLoad_a0 (P : Program) (t : TypeId) (cs : List PD) (off : Nat) : elemLoad P t (.d (.agg cs)) off = match tyOf P t with | none => none | some y => if isAggD y.desc = true then (if off + y.size ≤ cs.length then some (.d (.agg ((cs.drop off).take y.size))) else none) else (cs[off]?).map .d := rfl
@[go_sem] theorem elemLoad_a1 (P : Program) (t : TypeId) (cs : List PD) (off : Nat) : elemLoad P t (.b (.agg cs)) off = match tyOf P t with | none => none | some y => if isAggD y.desc = true then (if off + y.size ≤ cs.length then some (.b (.agg ((cs.drop off).take y.size))) else none) else (cs[off]?).map mkB := rfl
@[go_sem] theorem elemLoad_a2 (P : Program) (t : TypeId) (cs : List PV) (off : Nat) : elemLoad P t (.agg cs) off = match tyOf P t with | none => none | some y => if isAggD y.desc = true then (if off + y.size ≤ cs.length then some (mkAgg ((cs.drop off).take y.size)) else none) else cs[off]? := rfl
def dl (l : List PD) : List PV := l.map .d
@[go_sem] theorem dl_length (l : List PD) : (dl l).length = l.length := by simp [dl]
@[go_sem] theorem dl_kill (r : Nat) (l : List PD) : killL r (dl l) = dl l := by
  rw [killL_map]; simp only [dl, List.map_map]; rfl
@[go_sem] theorem dl_allD (l : List PD) : allD (dl l) = some l := allD_map l
@[go_sem] theorem dl_refs (H : Heap) (l : List PD) : refsInL H (dl l) = True := refsInL_d H l
@[go_sem] theorem dl_get (l : List PD) (i : Nat) : (dl l)[i]? = (l[i]?).map .d := by simp [dl]
theorem dl_nil : dl [] = [] := rfl
theorem dl_cons (x : PD) (l : List PD) : dl (x :: l) = .d x :: dl l := rfl
@[go_sem] theorem map_d (l : List PD) : l.map PV.d = dl l := rfl
@[go_sem] theorem rep_d (n : Nat) (x : PD) : List.replicate n (PV.d x) = dl (List.replicate n x) := by simp [dl]
@[go_sem] theorem dl_drop (l : List PD) (n : Nat) : (dl l).drop n = dl (l.drop n) := by simp [dl, List.map_drop]
@[go_sem] theorem dl_take (l : List PD) (n : Nat) : (dl l).take n = dl (l.take n) := by simp [dl, List.map_take]
@[go_sem] theorem dl_set (l : List PD) (i : Nat) (x : PD) : (dl l).set i (.d x) = dl (l.set i x) := by simp [dl, List.map_set]
def ints (l : List Int) : List PD := l.map (PD.int .i64)
@[go_sem] theorem ints_length (l : List Int) : (ints l).length = l.length := by simp [ints]
@[go_sem] theorem ints_get (l : List Int) (i : Nat) (h : i < l.length) : (ints l)[i]? = some (.int .i64 (l.getD i 0)) := by
  simp [ints, h, List.getD]
@[go_sem] theorem ints_drop (l : List Int) (n : Nat) : (ints l).drop n = ints (l.drop n) := by simp [ints, List.map_drop]
@[go_sem] theorem ints_take (l : List Int) (n : Nat) : (ints l).take n = ints (l.take n) := by simp [ints, List.map_take]
@[go_sem] theorem ints_nil_iff (l : List Int) : ints l = [] ↔ l = [] := by simp [ints]
@[go_sem] theorem ints_set (l : List Int) (i : Nat) (x : Int) : (ints l).set i (.int .i64 x) = ints (l.set i x) := by simp [ints, List.map_set]
@[go_sem] theorem ints_rep (n : Nat) (x : Int) : List.replicate n (PD.int .i64 x) = ints (List.replicate n x) := by simp [ints]
@[go_sem] theorem dl_ints_snoc (l : List Int) (x : Int) : dl (ints l) ++ [.d (.int .i64 x)] = dl (ints (l ++ [x])) := by simp [dl, ints]
@[go_sem] theorem dl_ints_app (l m : List Int) : dl (ints l) ++ dl (ints m) = dl (ints (l ++ m)) := by simp [dl, ints]
@[go_sem] theorem dl_ints_nil : dl (ints []) = [] := rfl
theorem wrap_i64_eq {x : Int} (h : -9223372036854775808 ≤ x ∧ x ≤ 9223372036854775807) : IntKind.i64.wrap x = x := by
  rw [IntKind.wrap_i64]; omega
section
variable {P : Program} {G : List (Nat × PD)} {ro : Option Nat} {N : Nat} {σ τ : St}
theorem AWp.seqI {ι : Type} {x y : Code} {Q : Post} (T : ι → St) (p : ι → Prop) (h1 : AWp P G ro N x σ (Post.then (fun σ' => ∃ i, p i ∧ Sub G N σ' (T i)) Q)) (h2 : ∀ i, p i → AWp P G ro N y (T i) Q) : AWp P G ro N (.seq x y) σ Q := by
  refine AWp.seq fun K hK => h1.mono fun e σ' he => ?_
  cases e with
  | normal => obtain ⟨i, hp, hs⟩ := he; exact hK _ (AWp.sub hs (h2 i hp))
  | _ => exact he
theorem Sub.void (t e k : Nat) (r : Nat) (ht : eget σ.env t = .d .nilslice) (hr0 : hget σ.heap r = none) (hr : 1000 ≤ r) (hk : 1 ≤ k) : Sub G N σ { env := eput σ.env t (.slc r 0 0), heap := hput σ.heap r { e, k, els := [] }, dfr := σ.dfr, gh := σ.gh } := by
  intro P B a w φ hrep
  have hne : ∀ s y, hget σ.heap s = some y → s ≠ r := fun s y h he => by rw [he, hr0] at h; cases h
  have hrow : ∀ b, rowB (upd φ r none) (hput σ.heap r { e, k, els := [] }) b → rowB φ σ.heap b := by
    rintro b ⟨s, y, h1, h2⟩
    rw [hget_hput] at h1
    by_cases hs : s = r
    · subst hs; simp [upd] at h2
    · rw [if_neg (Ne.symm hs)] at h1; simp only [upd, hs, if_false] at h2; exact ⟨s, y, h1, h2⟩
  have hown : ∀ b, own (upd φ r none) (hput σ.heap r { e, k, els := [] }) b → own φ σ.heap b := fun b h => h.imp (hrow b) id
  have hext : Ext w B.X φ σ.heap w (upd φ r none) (hput σ.heap r { e, k, els := [] }) :=
    ⟨fun s y h => ⟨y, by rw [hget_hput, if_neg (Ne.symm (hne s y h))]; exact h, rfl, fun _ => rfl, by simp [upd, hne s y h]⟩, fun b kk h => ⟨h.1, h.2.1, fun ho => h.2.2 (hown b ho)⟩, fun b kk h => ⟨h.1, fun ho => h.2 (hown b ho)⟩, fun _ kk _ => rfl, fun s y b _ _ c e f hh => ⟨c, e, f, hh, rfl⟩⟩
  have hgetr : hget (hput σ.heap r { e, k, els := [] }) r = some { e, k, els := [] } := by rw [hget_hput]; simp
  have hgets : ∀ s y, s ≠ r → hget (hput σ.heap r { e, k, els := [] }) s = some y → hget σ.heap s = some y := fun s y h hs => by rw [hget_hput, if_neg (Ne.symm h)] at hs; exact hs
  refine ⟨upd φ r none, Rep.of_sit ⟨⟨fun s y b hs hb => ?_, fun s y hs hb => ?_, fun s t y z b hs ht hb hb' => ?_, fun b hT => ⟨(hrep.heap.far b hT).1, (hrep.heap.far b hT).2.1, fun h => (hrep.heap.far b hT).2.2 (hrow b h)⟩⟩, hrep.keeps, fun s y b hs hb => ?_, fun s y hs hp => ?_, fun s y b hs hp hb => ?_, ?_, hrep.tnew, J_step (w := w) (φ := φ) (H := σ.heap) hrep.inv rfl rfl rfl rfl (Nat.le_refl _) (fun _ _ _ => rfl) (fun b hb => .inl (hrow b hb))⟩ hrep.size (fun t' => ?_) (hrep.dfr.ext hext)⟩
  · by_cases h : s = r
    · subst h; simp [upd] at hb
    · simp only [upd, h, if_false] at hb
      exact (hrep.heap.rows s y b (hgets s y h hs) hb).ext hext rfl
  · by_cases h : s = r
    · subst h; rw [hgetr] at hs; simp only [Option.some.injEq] at hs; subst hs; rfl
    · simp only [upd, h, if_false] at hb; exact hrep.heap.void s y (hgets s y h hs) hb
  · by_cases h : s = r
    · subst h; simp [upd] at hb
    · by_cases h' : t = r
      · subst h'; simp [upd] at hb'
      · simp only [upd, h, h', if_false] at hb hb'
        exact hrep.heap.inj s t y z b (hgets s y h hs) (hgets t z h' ht) hb hb'
  · by_cases h : s = r
    · subst h; simp [upd] at hb
    · simp only [upd, h, if_false] at hb; exact hrep.new s y b (hgets s y h hs) hb
  · have hlt : s < 1000 := by simpa [pinned] using hp
    have h : s ≠ r := by omega
    simp only [upd, h, if_false]
    exact hrep.pins s y (hgets s y h hs) hp
  · have hlt : s < 1000 := by simpa [pinned] using hp
    have h : s ≠ r := by omega
    simp only [upd, h, if_false] at hb
    exact hrep.psz s y b (hgets s y h hs) hp hb
  · exact hrep.glob.ext hext (fun g x hm => by obtain ⟨_, _, _, _, _, h2, _⟩ := hrep.glob g x hm; exact fun ho => h2 (hown g ho))
  · simp only [eget_eput]
    split
    · rename_i h; subst h
      have := hrep.env t
      rw [ht] at this
      rw [repD_nilslice (repV_d this)]
      exact .slc0 hgetr (by simp [upd]) hk (by simp)
    · exact (hrep.env t').ext hext
end
end Go.Pv

namespace Go.Pv
inductive Key where
  | t (n : Nat)
  | h (n : Nat)
  deriving DecidableEq
inductive Cont where
  | v (p : PV)
  | r (x : Option Row)
abbrev SF := Key → Cont
def St.look (σ : St) : SF
  | .t n => .v (eget σ.env n)
  | .h n => .r (hget σ.heap n)
abbrev Eff := List (Key × Cont)
def efind : Eff → Key → Option Cont
  | [], _ => none
  | (k, c) :: l, k' => if k = k' then some c else efind l k'
def SF.app (s : SF) (e : Eff) : SF := fun k => (efind e k).getD (s k)
def ekeys (e : Eff) : List Key := e.map (·.1)
theorem efind_none {e : Eff} {k : Key} (h : k ∉ ekeys e) : efind e k = none := by
  induction e with
  | nil => rfl
  | cons x l ih =>
    obtain ⟨k', c⟩ := x
    simp only [ekeys, List.map_cons, List.mem_cons, not_or] at h
    simp only [efind]
    rw [if_neg (Ne.symm h.1)]
    exact ih h.2
theorem efind_some {e : Eff} {k : Key} (h : k ∈ ekeys e) : ∃ c, efind e k = some c := by
  induction e with
  | nil => simp [ekeys] at h
  | cons x l ih =>
    obtain ⟨k', c⟩ := x
    simp only [efind]
    by_cases hk : k' = k
    · exact ⟨c, if_pos hk⟩
    · rw [if_neg hk]
      simp only [ekeys, List.map_cons, List.mem_cons] at h
      exact ih (h.resolve_left (Ne.symm hk))
theorem app_other {s : SF} {e : Eff} {k : Key} (h : k ∉ ekeys e) : s.app e k = s k := by simp [SF.app, efind_none h]
theorem app_same {s s' : SF} {e : Eff} {k : Key} (h : k ∈ ekeys e) : s.app e k = s'.app e k := by
  obtain ⟨c, hc⟩ := efind_some h
  simp [SF.app, hc]
def fold (s0 : SF) (E : Nat → Eff) (D : Nat → Bool) : Nat → SF
  | 0 => s0
  | i + 1 => if D i then (fold s0 E D i).app (E i) else fold s0 E D i
section
variable {s0 : SF} {E : Nat → Eff} {n : Nat} {pre : Nat → Nat → Prop} {rd : Nat → Key → Prop}
structure Ordered (n : Nat) (E : Nat → Eff) (rd : Nat → Key → Prop) (pre : Nat → Nat → Prop) : Prop where
  lt : ∀ i j, pre i j → i < j
  apart : ∀ i j, i < j → j < n → pre i j ∨ ((∀ k, k ∈ ekeys (E i) → ¬ rd j k ∧ k ∉ ekeys (E j)) ∧ ∀ k, k ∈ ekeys (E j) → ¬ rd i k)
theorem fold_agree (D : Nat → Bool) {j : Nat} (hDj : D j = false) {k : Key} (h : ∀ i, i < n → i ≠ j → k ∈ ekeys (E i) → (D i = true ↔ i < j)) (hj : j < n) : fold s0 E D n k = fold s0 E (fun _ => true) j k := by
  have h1 : ∀ m, m ≤ j → fold s0 E D m k = fold s0 E (fun _ => true) m k := by
    intro m
    induction m with
    | zero => intro _; rfl
    | succ m ih =>
      intro hm
      simp only [fold, if_true]
      by_cases hk : k ∈ ekeys (E m)
      · have := (h m (by omega) (by omega) hk).2 (by omega)
        rw [if_pos this]
        exact app_same hk
      · rw [app_other hk, ← ih (by omega)]
        split
        · exact app_other hk
        · rfl
  have h2 : ∀ m, j ≤ m → m ≤ n → fold s0 E D m k = fold s0 E D j k := by
    intro m
    induction m with
    | zero => intro h _; have : j = 0 := by omega
              subst this; rfl
    | succ m ih =>
      intro hm hmn
      by_cases hjm : j = m + 1
      · subst hjm; rfl
      · simp only [fold]
        by_cases hDm : D m = true
        · rw [if_pos hDm]
          have hmj : m ≠ j := fun e => by rw [e, hDj] at hDm; cases hDm
          have hk : k ∉ ekeys (E m) := fun hk => by
            have := (h m (by omega) hmj hk).1 hDm; omega
          rw [app_other hk]
          exact ih (by omega) (by omega)
        · rw [if_neg hDm]; exact ih (by omega) (by omega)
  rw [h2 n (by omega) (Nat.le_refl _), h1 j (Nat.le_refl _)]
theorem fold_add (ho : Ordered n E rd pre) (D : Nat → Bool) (hcl : ∀ i j, pre i j → D j = true → D i = true) {j : Nat} (hj : j < n) (hDj : D j = false) (hpre : ∀ i, pre i j → D i = true) :
    fold s0 E (fun i => D i || decide (i = j)) n = (fold s0 E D n).app (E j) := by
  funext k
  have hcmp : ∀ i, i < n → i ≠ j → D i = true → j < i → k ∈ ekeys (E j) → k ∉ ekeys (E i) := fun i hi hne hDi hlt hk => by
    rcases ho.apart j i hlt hi with h | h
    · have := hcl j i h hDi; rw [hDj] at this; cases this
    · exact (h.1 k hk).2
  have h1 : ∀ m, m ≤ j → fold s0 E (fun i => D i || decide (i = j)) m k = fold s0 E D m k := by
    intro m
    induction m with
    | zero => intro _; rfl
    | succ m ih =>
      intro hm
      simp only [fold, show ¬ m = j by omega, decide_false, Bool.or_false]
      split
      · simp only [SF.app, ih (by omega)]
      · exact ih (by omega)
  have h2 : ∀ m, j + 1 ≤ m → m ≤ n → fold s0 E (fun i => D i || decide (i = j)) m k = (fold s0 E D m).app (E j) k := by
    intro m
    induction m with
    | zero => intro h; omega
    | succ m ih =>
      intro hm hmn
      by_cases hmj : m = j
      · subst hmj
        simp only [fold, decide_true, Bool.or_true, if_true, hDj, Bool.false_eq_true, if_false]
        by_cases hk : k ∈ ekeys (E m)
        · exact app_same hk
        · rw [app_other hk, app_other hk, h1 m (Nat.le_refl _)]
      · have ih := ih (by omega) (by omega)
        simp only [fold, hmj, decide_false, Bool.or_false]
        by_cases hDm : D m = true
        · rw [if_pos hDm, if_pos hDm]
          by_cases hkj : k ∈ ekeys (E j)
          · have hkm := hcmp m (by omega) hmj hDm (by omega) hkj
            rw [app_other hkm, ih]
            exact app_same hkj
          · rw [app_other hkj] at ih ⊢
            by_cases hkm : k ∈ ekeys (E m)
            · exact app_same hkm
            · rw [app_other hkm, app_other hkm, ih]
        · rw [if_neg hDm, if_neg hDm]; exact ih
  exact h2 n (by omega) (Nat.le_refl _)
theorem fold_reads (ho : Ordered n E rd pre) (D : Nat → Bool) (hcl : ∀ i j, pre i j → D j = true → D i = true) {j : Nat} (hj : j < n) (hDj : D j = false) (hpre : ∀ i, pre i j → D i = true) {k : Key} (hk : rd j k) :
    fold s0 E D n k = fold s0 E (fun _ => true) j k := by
  refine fold_agree D hDj (fun i hi hne hki => ?_) hj
  constructor
  · intro hDi
    rcases Nat.lt_or_gt_of_ne hne with h | h
    · exact h
    · rcases ho.apart j i h hi with h' | h'
      · have := hcl j i h' hDi; rw [hDj] at this; cases this
      · exact absurd hk (h'.2 k hki)
  · intro hlt
    rcases ho.apart i j hlt hj with h | h
    · exact hpre i h
    · exact absurd hk (h.1 k hki).1
theorem fold_all (D : Nat → Bool) : ∀ m, (∀ i, i < m → D i = true) → fold s0 E D m = fold s0 E (fun _ => true) m
  | 0, _ => rfl
  | m + 1, h => by simp only [fold, h m (by omega), if_true, fold_all D m (fun i hi => h i (by omega))]
end
def St.rest (σ : St) : List PV × Gh := (σ.dfr, σ.gh)
mutual
def rowsOf : PV → List Nat
  | .ptr r _ _ => [r]
  | .slc r _ _ => [r]
  | .mp r => [r]
  | .func _ l => rowsOfL l
  | .agg l => rowsOfL l
  | .tuple l => rowsOfL l
  | .any => []
  | .d _ => []
  | .b _ => []
  | .dptr _ _ _ _ => []
  | .bptr _ _ _ _ => []
  | .glob _ => []
  | .val _ => []
def rowsOfL : List PV → List Nat
  | [] => []
  | p :: l => rowsOf p ++ rowsOfL l
end
theorem rowsOfL_mem {l : List PV} {i : Nat} (hi : i < l.length) {r : Nat} (h : r ∈ rowsOf l[i]) : r ∈ rowsOfL l := by
  induction l generalizing i with
  | nil => simp at hi
  | cons p l ih =>
    simp only [rowsOfL, List.mem_append]
    cases i with
    | zero => exact .inl h
    | succ i => exact .inr (ih (by simpa using hi) (by simpa using h))
def Cont.rows : Cont → List Nat
  | .v p => rowsOf p
  | .r (some x) => rowsOfL x.els
  | .r none => []
abbrev Exc := List (Nat × List Nat)
def Key.among : Key → List Nat → Bool
  | .t n, S => S.contains n
  | .h n, S => S.contains (n + 1000000)
def exOk : Exc → Key → Cont → Prop
  | [], _, _ => True
  | (r, S) :: l, k, c => (k.among S = true ∨ c.rows.contains r = false) ∧ exOk l k c
def exE (xs : Exc) : Eff → Prop
  | [] => True
  | (k, c) :: l => exOk xs k c ∧ exE xs l
theorem exE_get {xs : Exc} : ∀ {e : Eff}, exE xs e → ∀ k c, efind e k = some c → exOk xs k c
  | (k', c') :: l, h, k, c, hf => by
    simp only [efind] at hf
    split at hf
    · rename_i hk; subst hk; simp only [Option.some.injEq] at hf; subst hf; exact h.1
    · exact exE_get h.2 k c hf
theorem fold_ex {xs : Exc} {s0 : SF} {E : Nat → Eff} {D : Nat → Bool} (h0 : ∀ k, exOk xs k (s0 k)) : ∀ n, (∀ i, i < n → exE xs (E i)) → ∀ k, exOk xs k (fold s0 E D n k)
  | 0, _, k => h0 k
  | n + 1, h, k => by
    have ih := fold_ex (D := D) h0 n (fun i hi => h i (by omega)) k
    simp only [fold]
    split
    · simp only [SF.app]
      cases hf : efind (E n) k with
      | none => exact ih
      | some c => exact exE_get (h n (by omega)) k c hf
    · exact ih
theorem exOk_nil (k : Key) (c : Cont) : exOk [] k c = True := rfl
theorem exE_nil (e : Eff) : exE [] e = True := by
  induction e with
  | nil => rfl
  | cons x l ih => obtain ⟨k, c⟩ := x; simp only [exE, exOk_nil, ih, and_self]
def RepF {P : Program} (G : List (Nat × PD)) (B : Base P) (N : Nat) (z : List PV × Gh) (s : SF) (a : Act) (w : World) : Prop := ∃ σ φ, σ.rest = z ∧ σ.look = s ∧ Rep G B N σ a w φ
def Loc (P : Program) (G : List (Nat × PD)) (ro : Option Nat) (N : Nat) (xs : Exc) (ops : Array Oper) (o : Oper) (rd : Key → Prop) (e : Eff) (z : List PV × Gh) (s : SF) : Prop :=
  ∀ s' : SF, (∀ k, rd k → s' k = s k) → (∀ k, exOk xs k (s' k)) → ∀ (B : Base P), B.ro = ro → ∀ a w, RepF G B N z s' a w → ∀ (next : Act → World → Prop) (Q : Exit → Act → World → Prop), (∀ a' w', RepF G B N z (s'.app e) a' w' → next a' w') →
    if Region.wanted o (yielded ops a.tmps) then o.wpIn (Fw ro) 0 P a w next Q else (∀ f, o.about P w a.eval = some f → (Fw ro).fn f) ∧ next (a.put o.dst undef) w
def edge (ops : Array Oper) (i j : Nat) : Prop := ∃ o, ops[j]? = some o ∧ ∃ e ∈ o.after.toList, Region.binds .any e = true ∧ e.on = i
inductive Prec (ops : Array Oper) : Nat → Nat → Prop
  | one {i j : Nat} (h : edge ops i j) : Prec ops i j
  | more {i k j : Nat} (h : edge ops k j) (h' : Prec ops i k) : Prec ops i j
section
variable {P : Program} {G : List (Nat × PD)} {ro : Option Nat} {N : Nat} {ops : Array Oper}
theorem Prec.lt (he : ∀ i j, edge ops i j → i < j) {i j : Nat} (h : Prec ops i j) : i < j := by
  induction h with
  | one h => exact he _ _ h
  | more h _ ih => exact Nat.lt_trans ih (he _ _ h)
theorem ready_done (he : ∀ i j, edge ops i j → i < j) : ∀ listed : Array Bool, listed.size = ops.size → Region.ready .any ops listed = [] → ∀ i, i < ops.size → listed.getD i true = true := by
  intro listed hs hr i
  induction i using Nat.strongRecOn with
  | _ i ih =>
    intro hi
    cases hl : listed.getD i true with
    | true => rfl
    | false =>
      exfalso
      have : i ∈ Region.ready .any ops listed := by
        unfold Region.ready
        rw [List.mem_filter]
        refine ⟨by simpa using hi, ?_⟩
        simp only [hl, Bool.not_false, Bool.true_and, Array.getElem?_eq_getElem hi, Option.map_some, Option.getD_some]
        rw [Array.all_eq_true]
        intro m hm
        simp only [Bool.or_eq_true, Bool.not_eq_true']
        by_cases hb : Region.binds .any (ops[i].after[m]) = true
        · right
          have hedge : edge ops (ops[i].after[m]).on i := ⟨ops[i], Array.getElem?_eq_getElem hi, ops[i].after[m], by simp, hb, rfl⟩
          have hlt := he _ _ hedge
          have := ih _ hlt (by omega)
          have hlt2 : (ops[i].after[m]).on < listed.size := by omega
          simpa [Array.getD, hlt2] using this
        · left; simpa using hb
      rw [hr] at this
      simp at this
theorem ready_pre (listed : Array Bool) {i : Nat} (hi : i ∈ Region.ready .any ops listed) : ∃ hi : i < ops.size, listed.getD i true = false ∧ ∀ k, edge ops k i → listed.getD k false = true := by
  unfold Region.ready at hi
  rw [List.mem_filter] at hi
  obtain ⟨h1, h2⟩ := hi
  have hi : i < ops.size := by simpa using h1
  simp only [Bool.and_eq_true, Bool.not_eq_true', Array.getElem?_eq_getElem hi, Option.map_some, Option.getD_some] at h2
  refine ⟨hi, h2.1, ?_⟩
  rintro k ⟨o, ho, e, hm, hb, rfl⟩
  rw [Array.getElem?_eq_getElem hi] at ho
  simp only [Option.some.injEq] at ho; subst ho
  have h3 := h2.2
  rw [Array.all_eq_true] at h3
  obtain ⟨m, hm1, rfl⟩ := List.getElem_of_mem hm
  have hm' : m < ops[i].after.size := by rw [← Array.length_toList]; exact hm1
  have := h3 m hm'
  simp only [Bool.or_eq_true, Bool.not_eq_true'] at this
  rcases this with h | h
  · rw [show (ops[i].after.toList[m]) = ops[i].after[m]'hm' by simp] at hb
    rw [hb] at h; cases h
  · simpa using h
theorem ready_prec (he : ∀ i j, edge ops i j → i < j) {listed : Array Bool} (hs : listed.size = ops.size) (hcl : ∀ i j, Prec ops i j → listed.getD j true = true → j < ops.size → listed.getD i true = true) {j : Nat} (hj : j ∈ Region.ready .any ops listed) :
    ∀ i, Prec ops i j → listed.getD i true = true := by
  obtain ⟨hj1, hj2, hj3⟩ := ready_pre listed hj
  have hgd : ∀ k, k < ops.size → listed.getD k false = true → listed.getD k true = true := fun k hk h => by
    have : k < listed.size := by omega
    simpa [Array.getD, this] using h
  intro i h
  cases h with
  | one h => exact hgd i (by have := he _ _ h; omega) (hj3 i h)
  | more h h' =>
    rename_i k
    have hk := hgd k (by have := he _ _ h; omega) (hj3 k h)
    exact hcl i k h' hk (by have := he _ _ h; omega)
theorem set_listed {listed : Array Bool} (hs : listed.size = ops.size) {j : Nat} (hj1 : j < ops.size) : ∀ i, (listed.setIfInBounds j true).getD i true = (listed.getD i true || decide (i = j)) := fun i => by
  have hjs : j < listed.size := by omega
  by_cases hij : i = j
  · subst hij; simp [Array.getD, hjs]
  · simp only [hij, decide_false, Bool.or_false]
    simp [Array.getD_eq_getD_getElem?, Array.getElem?_setIfInBounds, Ne.symm hij]
theorem wpAny_chain {m : Nat} (he : ∀ i j, edge ops i j → i < j) (hch : ∀ j, m ≤ j → j < ops.size → ∀ i, i < j → Prec ops i j) {Q : Exit → Act → World → Prop} :
    ∀ (fuel j : Nat) (listed : Array Bool), m ≤ j → j ≤ ops.size → listed.size = ops.size → (∀ i, i < ops.size → (listed.getD i true = true ↔ i < j)) → ops.size - j ≤ fuel →
      ∀ a w, wpL (Fw ro) 0 P ops Q (ops.toList.drop j) a w → wpAnyIn (Fw ro) 0 P .any ops Q fuel listed a w := by
  intro fuel
  induction fuel with
  | zero =>
    intro j listed hm hj hs hl hf a w hw
    have hj : j = ops.size := by omega
    subst hj
    rw [List.drop_of_length_le (by simp)] at hw
    refine ⟨?_, hw⟩
    cases hr : Region.ready .any ops listed with
    | nil => rfl
    | cons x l =>
      obtain ⟨hi, h1, _⟩ := ready_pre listed (i := x) (by rw [hr]; simp)
      rw [(hl x hi).2 hi] at h1; cases h1
  | succ fuel ih =>
    intro j listed hm hj hs hl hf a w hw
    refine ⟨fun hr => ?_, fun i hi => ?_⟩
    · have hall := ready_done he listed hs hr
      have : j = ops.size := by
        by_cases hjn : j < ops.size
        · exact absurd ((hl j hjn).1 (hall j hjn)) (Nat.lt_irrefl _)
        · omega
      subst this
      rw [List.drop_of_length_le (by simp)] at hw
      exact hw
    · have hcl : ∀ i k, Prec ops i k → listed.getD k true = true → k < ops.size → listed.getD i true = true := fun i k h hk hkn => by
        have h1 := (hl k hkn).1 hk
        have h2 := h.lt he
        exact (hl i (by omega)).2 (by omega)
      have hp := ready_prec he hs hcl hi
      obtain ⟨hi1, hi2, _⟩ := ready_pre listed hi
      have hge : ¬ i < j := fun h => by rw [(hl i hi1).2 h] at hi2; cases hi2
      have hij : i = j := by
        by_cases h : j < i
        · have := hp j (hch i (by omega) hi1 j h)
          exact absurd ((hl j (by omega)).1 this) (Nat.lt_irrefl _)
        · omega
      subst hij
      have hset := set_listed (ops := ops) hs hi1
      have hd : ops.toList.drop i = ops[i] :: ops.toList.drop (i + 1) := by
        rw [List.drop_eq_getElem_cons (by simpa using hi1)]; simp
      have hnext : ∀ a w, wpL (Fw ro) 0 P ops Q (ops.toList.drop (i + 1)) a w → wpAnyIn (Fw ro) 0 P .any ops Q fuel (listed.setIfInBounds i true) a w :=
        ih (i + 1) _ (by omega) (by omega) (by simpa using hs) (fun k hk => by
          rw [hset k, Bool.or_eq_true, decide_eq_true_eq, hl k hk]; omega) (by omega)
      rw [hd, wpL] at hw
      unfold wpOpIn
      simp only [Array.getElem?_eq_getElem hi1]
      split at hw
      · rename_i hwant
        rw [if_pos hwant]
        exact Oper.wpIn_mono hnext hw
      · rename_i hwant
        rw [if_neg hwant]
        exact ⟨hw.1, hnext _ _ hw.2⟩
theorem countP_lt (n j : Nat) (hj : j ≤ n) : (List.range n).countP (fun i => decide (i < j)) = j := by
  induction n with
  | zero => simp; omega
  | succ n ih =>
    rw [List.range_succ, List.countP_append]
    by_cases h : j ≤ n
    · rw [ih h]; simp [show ¬ n < j by omega]
    · have : j = n + 1 := by omega
      subst this
      have : (List.range n).countP (fun i => decide (i < n + 1)) = (List.range n).length := List.countP_eq_length.2 (fun i hi => by simp at hi ⊢; omega)
      rw [this]; simp
theorem wpAny_seg {xs : Exc} {E : Nat → Eff} {rd : Nat → Key → Prop} {s0 : SF} {z : List PV × Gh} {b m : Nat} (hm : m ≤ ops.size) (ho : Ordered m E rd (Prec ops)) (he : ∀ i j, edge ops i j → i < j)
    (hloc : ∀ i (hi : i < ops.size), b ≤ i → i < m → Loc P G ro N xs ops ops[i] (rd i) (E i) z (fold s0 E (fun _ => true) i)) (hch : ∀ j, m ≤ j → j < ops.size → ∀ i, i < m → Prec ops i j)
    {Q : Exit → Act → World → Prop} {B : Base P} (hx0 : ∀ k, exOk xs k (s0 k)) (hxE : ∀ i, i < m → exE xs (E i)) (hro : B.ro = ro)
    (hQ : ∀ (fuel : Nat) (listed : Array Bool), listed.size = ops.size → (∀ i, i < ops.size → (listed.getD i true = true ↔ i < m)) → ops.size - m ≤ fuel → ∀ a w, RepF G B N z (fold s0 E (fun _ => true) m) a w → wpAnyIn (Fw ro) 0 P .any ops Q fuel listed a w) :
    ∀ (fuel : Nat) (listed : Array Bool), listed.size = ops.size → (∀ i j, Prec ops i j → listed.getD j true = true → j < ops.size → listed.getD i true = true) → (∀ j, m ≤ j → j < ops.size → listed.getD j true = false) → (∀ i, i < b → listed.getD i true = true) →
      (ops.size - (List.range ops.size).countP (fun i => listed.getD i true) ≤ fuel) →
      ∀ a w, RepF G B N z (fold s0 E (fun i => listed.getD i true) m) a w → wpAnyIn (Fw ro) 0 P .any ops Q fuel listed a w := by
  -- once the first ones are done
  have hend : ∀ (fuel : Nat) (listed : Array Bool), listed.size = ops.size → (∀ j, m ≤ j → j < ops.size → listed.getD j true = false) → (ops.size - (List.range ops.size).countP (fun i => listed.getD i true) ≤ fuel) → (∀ i, i < m → listed.getD i true = true) →
      ∀ a w, RepF G B N z (fold s0 E (fun i => listed.getD i true) m) a w → wpAnyIn (Fw ro) 0 P .any ops Q fuel listed a w := by
    intro fuel listed hs hno hf hall a w hrep
    rw [fold_all _ _ hall] at hrep
    have hl : ∀ i, i < ops.size → (listed.getD i true = true ↔ i < m) := fun i hi => by
      refine ⟨fun h => ?_, hall i⟩
      by_cases him : i < m
      · exact him
      · rw [hno i (by omega) hi] at h; cases h
    refine hQ fuel listed hs hl ?_ a w hrep
    have hc : (List.range ops.size).countP (fun i => listed.getD i true) = m := by
      rw [← countP_lt ops.size m hm]
      exact List.countP_congr (fun i hi => by rw [hl i (by simpa using hi)]; simp)
    omega
  intro fuel
  induction fuel with
  | zero =>
    intro listed hs hcl hno hfirst hf a w hrep
    have hall : ∀ i, i < ops.size → listed.getD i true = true := by
      intro i hi
      have hc : (List.range ops.size).countP (fun i => listed.getD i true) = (List.range ops.size).length := by
        have := List.countP_le_length (p := fun i => listed.getD i true) (l := List.range ops.size)
        simp only [List.length_range] at this ⊢
        omega
      exact List.countP_eq_length.1 hc i (by simpa using hi)
    exact hend 0 listed hs hno hf (fun i hi => hall i (by omega)) a w hrep
  | succ fuel ih =>
    intro listed hs hcl hno hfirst hf a w hrep
    by_cases hpre : ∀ i, i < m → listed.getD i true = true
    · exact hend (fuel + 1) listed hs hno hf hpre a w hrep
    refine ⟨fun hr => absurd (fun i hi => ready_done he listed hs hr i (by omega)) hpre, fun j hj => ?_⟩
    obtain ⟨hj1, hj2, hj3⟩ := ready_pre listed hj
    have hp := ready_prec he hs hcl hj
    have hjm : j < m := by
      by_cases h : j < m
      · exact h
      · exact absurd (fun i hi => hp i (hch j (by omega) hj1 i hi)) hpre
    have hbj : b ≤ j := by
      rcases Nat.lt_or_ge j b with h | h
      · rw [hfirst j h] at hj2; cases hj2
      · exact h
    have hset := set_listed (ops := ops) hs hj1
    have hcl' : ∀ i k, Prec ops i k → (fun i => listed.getD i true) k = true → (fun i => listed.getD i true) i = true := fun i k h hk => by
      by_cases hks : k < ops.size
      · exact hcl i k h hk hks
      · exfalso
        have : ∃ o, ops[k]? = some o := by cases h with
          | one h => obtain ⟨o, ho, _⟩ := h; exact ⟨o, ho⟩
          | more h _ => obtain ⟨o, ho, _⟩ := h; exact ⟨o, ho⟩
        obtain ⟨o, ho⟩ := this
        exact hks (Array.getElem?_eq_some_iff.1 ho).1
    have hread : ∀ k, rd j k → fold s0 E (fun i => listed.getD i true) m k = fold s0 E (fun _ => true) j k := fun k hk =>
      fold_reads ho (fun i => listed.getD i true) hcl' hjm hj2 hp hk
    have hadd : fold s0 E (fun i => listed.getD i true || decide (i = j)) m = (fold s0 E (fun i => listed.getD i true) m).app (E j) :=
      fold_add ho (fun i => listed.getD i true) hcl' hjm hj2 hp
    have hl := hloc j hj1 hbj hjm _ hread (fold_ex hx0 m hxE) B hro a w hrep (wpAnyIn (Fw ro) 0 P .any ops Q fuel (listed.setIfInBounds j true)) Q (fun a' w' h => by
      refine ih _ (by simpa using hs) (fun i k hik hk hks => ?_) (fun k hk hks => ?_) (fun i hi => by rw [hset, hfirst i hi]; rfl) ?_ a' w' ?_
      · rw [hset] at hk ⊢
        simp only [Bool.or_eq_true, decide_eq_true_eq] at hk ⊢
        rcases hk with hk | rfl
        · exact .inl (hcl i k hik hk hks)
        · exact .inl (hp i hik)
      · rw [hset, hno k hk hks]; simp; omega
      · have hcount : (List.range ops.size).countP (fun i => listed.getD i true) < (List.range ops.size).countP (fun i => (listed.setIfInBounds j true).getD i true) := by
          have hmono : ∀ (l : List Nat), j ∈ l → l.countP (fun i => listed.getD i true) < l.countP (fun i => (listed.setIfInBounds j true).getD i true) := by
            have hle : ∀ (l : List Nat), l.countP (fun i => listed.getD i true) ≤ l.countP (fun i => (listed.setIfInBounds j true).getD i true) := fun l =>
              List.countP_mono_left (fun x _ hx => by simp only [hset, Bool.or_eq_true]; exact .inl hx)
            intro l
            induction l with
            | nil => intro h; simp at h
            | cons x l ihl =>
              intro h
              rw [List.countP_cons, List.countP_cons]
              by_cases hx : x = j
              · subst hx
                have e1 : (listed.setIfInBounds x true).getD x true = true := by rw [hset]; simp
                have := hle l
                simp only [hj2, Bool.false_eq_true, if_false, e1, if_true]
                omega
              · have := ihl (by simpa [Ne.symm hx] using h)
                have e2 : (listed.setIfInBounds j true).getD x true = listed.getD x true := by rw [hset]; simp [hx]
                rw [e2]; omega
          exact hmono _ (by simpa using hj1)
        omega
      · have e : (fun i => (listed.setIfInBounds j true).getD i true) = fun i => listed.getD i true || decide (i = j) := funext hset
        rw [e, hadd]; exact h)
    unfold wpOpIn
    simp only [Array.getElem?_eq_getElem hj1]
    exact hl
end
end Go.Pv

namespace Go.Pv
mutual
def valRows : PV → List Nat
  | .ptr r _ _ => [r]
  | .slc r _ _ => [r]
  | .mp r => [r]
  | .agg l => valRowsL l
  | .any => []
  | .d _ => []
  | .b _ => []
  | .dptr _ _ _ _ => []
  | .bptr _ _ _ _ => []
  | .glob _ => []
  | .val _ => []
  | .func _ _ => []
  | .tuple _ => []
def valRowsL : List PV → List Nat
  | [] => []
  | p :: l => valRows p ++ valRowsL l
end
def optOp : Option Operand → List Operand
  | some x => [x]
  | none => []
def opnds : Op → List Operand
  | .move x => [x]
  | .assign x => [x]
  | .pick c a b => [c, a, b]
  | .binOp _ _ x y _ => [x, y]
  | .unOp _ _ x => [x]
  | .convert _ _ x => [x]
  | .fieldAddr _ x _ => [x]
  | .field _ x _ => [x]
  | .indexAddr _ x i => [x, i]
  | .extract x _ => [x]
  | .build _ parts => parts.toList.map (·.2)
  | .load _ x => [x]
  | .slice _ x lo hi none => x :: (optOp lo ++ optOp hi)
  | .makeFunc _ first captured => first.toList ++ captured.toList
  | .call c => c.args.toList
  | .nilCheck x => [x]
  | .makeInterface _ x => [x]
  | .box _ x => [x]
  | .makeSlice _ l c => [l, c]
  | .buildSlice _ _ parts => parts.toList.map (·.2)
  | .store _ ad x => [ad, x]
  | _ => []
def tmpKeys : List Operand → List Key
  | [] => []
  | .tmp t :: l => .t t :: tmpKeys l
  | .const _ :: l => tmpKeys l
  | .global _ :: l => tmpKeys l
  | .func _ :: l => tmpKeys l
def rowKeys (σ : St) : List Operand → List Key
  | [] => []
  | x :: l => (valRows (σ.eval x)).map .h ++ rowKeys σ l
section
variable {P : Program} {G : List (Nat × PD)} {σ σ' : St}
theorem eval_agree {l : List Operand} (h : ∀ k ∈ tmpKeys l, σ'.look k = σ.look k) : ∀ x ∈ l, σ'.eval x = σ.eval x := by
  induction l with
  | nil => intro x hx; cases hx
  | cons y l ih =>
    intro x hx
    have hl : ∀ k ∈ tmpKeys l, σ'.look k = σ.look k := fun k hk => h k (by cases y <;> simp [tmpKeys, hk])
    rcases List.mem_cons.1 hx with rfl | hx
    · cases x with
      | tmp t =>
        have := h (.t t) (by simp [tmpKeys])
        simp only [St.look, Cont.v.injEq] at this
        exact this
      | _ => rfl
    · exact ih hl x hx
theorem rows_agree {l : List Operand} (h : ∀ k ∈ rowKeys σ l, σ'.look k = σ.look k) : ∀ x ∈ l, ∀ r ∈ valRows (σ.eval x), hget σ'.heap r = hget σ.heap r := by
  induction l with
  | nil => intro x hx; cases hx
  | cons y l ih =>
    intro x hx r hr
    rcases List.mem_cons.1 hx with rfl | hx
    · have := h (.h r) (by simp only [rowKeys, List.mem_append, List.mem_map]; exact .inl ⟨r, hr, rfl⟩)
      simp only [St.look, Cont.r.injEq] at this
      exact this
    · exact ih (fun k hk => h k (by simp [rowKeys, hk])) x hx r hr
theorem evalL_agree : ∀ {l : List Operand}, (∀ x ∈ l, σ'.eval x = σ.eval x) → evalL σ' l = evalL σ l
  | [], _ => rfl
  | x :: l, h => by simp only [evalL]; rw [h x (by simp), evalL_agree fun y hy => h y (by simp [hy])]
theorem evalP_agree : ∀ {l : List (Nat × Operand)}, (∀ x ∈ l.map (·.2), σ'.eval x = σ.eval x) → evalP σ' l = evalP σ l
  | [], _ => rfl
  | (i, x) :: l, h => by simp only [evalP]; rw [h x (by simp), evalP_agree fun y hy => h y (by simp only [List.map_cons, List.mem_cons]; exact .inr hy)]
theorem optInt_agree {o : Option Operand} (h : ∀ x ∈ optOp o, σ'.eval x = σ.eval x) : optInt σ' o = optInt σ o := by
  cases o with
  | none => rfl
  | some x => simp only [optInt]; rw [h x (by simp [optOp])]
theorem loadV_agree {H H' : Heap} {t : TypeId} {p : PV} (h : ∀ r ∈ valRows p, hget H' r = hget H r) : loadV P G H' t p = loadV P G H t p := by
  cases p <;> try rfl
  rename_i r i off
  simp only [loadV]; rw [h r (by simp [valRows])]
theorem sliceV_agree {H H' : Heap} {q : Nat} {lo hi : Option Int} {p : PV} (h : ∀ r ∈ valRows p, hget H' r = hget H r) : sliceV q H' lo hi p = sliceV q H lo hi p := by
  cases p with
  | slc r a n => simp only [sliceV]; rw [h r (by simp [valRows])]
  | d x => cases x <;> rfl
  | b x => cases x <;> rfl
  | _ => rfl
theorem idxAddr_agree {H H' : Heap} {n : Nat} {i : Int} {p : PV} (h : ∀ r ∈ valRows p, hget H' r = hget H r) : idxAddr n H' i p = idxAddr n H i p := by
  cases p with
  | slc r a n => simp only [idxAddr]; rw [h r (by simp [valRows])]
  | d x => cases x <;> rfl
  | b x => cases x <;> rfl
  | _ => rfl
mutual
theorem frz_agree {H H' : Heap} : ∀ (p : PV), (∀ r ∈ valRows p, hget H' r = hget H r) → frz H' p = frz H p
  | .slc r _ _, h => by simp only [frz]; rw [h r (by simp [valRows])]
  | .agg l, h => by simp only [frz]; rw [frzL_agree l (fun r hr => h r (by simpa [valRows] using hr))]
  | .any, _ => rfl
  | .d _, _ => rfl
  | .b _, _ => rfl
  | .ptr _ _ _, _ => rfl
  | .dptr _ _ _ _, _ => rfl
  | .bptr _ _ _ _, _ => rfl
  | .glob _, _ => rfl
  | .val _, _ => rfl
  | .func _ _, _ => rfl
  | .tuple _, _ => rfl
  | .mp _, _ => rfl
theorem frzL_agree {H H' : Heap} : ∀ (l : List PV), (∀ r ∈ valRowsL l, hget H' r = hget H r) → frzL H' l = frzL H l
  | [], _ => rfl
  | p :: l, h => by
    simp only [frzL]
    rw [frz_agree p (fun r hr => h r (by simp [valRowsL, hr])), frzL_agree l (fun r hr => h r (by simp [valRowsL, hr]))]
end
theorem argsOk_agree {H H' : Heap} : ∀ {l m : List PV}, (∀ p ∈ l, ∀ r ∈ valRows p, hget H' r = hget H r) → argsOk H l m → argsOk H' l m
  | [], [], _, _ => trivial
  | p :: l, q :: m, h, ha => by
    refine ⟨?_, argsOk_agree (fun p hp => h p (by simp [hp])) ha.2⟩
    have h1 := ha.1
    cases q with
    | b x =>
      rcases h1 with h1 | h1
      · exact .inl h1
      · exact .inr (by rw [frz_agree p (h p (by simp))]; exact h1)
    | _ => exact h1
  | [], _ :: _, _, h => h.elim
  | _ :: _, [], _, h => h.elim
theorem pureOp_agree {op : Op} (h : ∀ x ∈ opnds op, σ'.eval x = σ.eval x) (hr : ∀ x ∈ opnds op, ∀ r ∈ valRows (σ.eval x), hget σ'.heap r = hget σ.heap r) : pureOp P G σ' op = pureOp P G σ op := by
  cases op <;> try rfl
  all_goals simp only [opnds, List.mem_cons, List.mem_append, List.not_mem_nil, or_false, forall_eq_or_imp, forall_eq] at h hr
  all_goals try (simp only [pureOp]; simp only [h]; done)
  case indexAddr t x i =>
    simp only [pureOp, indexAddrV, h.1, h.2]
    split <;> try rfl
    exact idxAddr_agree hr.1
  case build t parts =>
    simp only [pureOp]; rw [evalP_agree h]
  case load t x => simp only [pureOp, h]; exact loadV_agree hr
  case slice t x lo hi mx =>
    cases mx with
    | some _ => rfl
    | none =>
      simp only [opnds, List.mem_cons, List.mem_append, forall_eq_or_imp] at h hr
      simp only [pureOp, sliceOpV, h.1, optInt_agree fun x hx => h.2 x (.inl hx), optInt_agree fun x hx => h.2 x (.inr hx)]
      split <;> try rfl
      exact sliceV_agree hr.1
  case makeFunc fn first captured =>
    simp only [pureOp]; rw [evalL_agree fun x hx => h x (.inl hx), evalL_agree fun x hx => h x (.inr hx)]
  case call c =>
    simp only [pureOp, callV]
    split <;> try rfl
    rw [evalL_agree h]
def pureRd (σ : St) (op : Op) : List Key :=
  match op with
  | .load _ _ | .indexAddr _ _ _ | .slice _ _ _ _ _ => rowKeys σ (opnds op)
  | _ => []
theorem pureOp_agree' {op : Op} (h : ∀ x ∈ opnds op, σ'.eval x = σ.eval x) (hr : ∀ k ∈ pureRd σ op, σ'.look k = σ.look k) : pureOp P G σ' op = pureOp P G σ op := by
  have key : (pureRd σ op = rowKeys σ (opnds op)) ∨ (∀ H, pureOp P G { σ' with heap := H } op = pureOp P G σ' op) := by
    have ev : ∀ H x, St.eval { σ' with heap := H } x = σ'.eval x := fun H x => by cases x <;> rfl
    cases op
    case build t parts => exact .inr fun H => by simp only [pureOp]; rw [evalP_agree (σ' := { σ' with heap := H }) (σ := σ') fun x _ => ev H x]
    case makeFunc a b c =>
      refine .inr fun H => ?_
      simp only [pureOp]; rw [evalL_agree (σ' := { σ' with heap := H }) (σ := σ') (fun x _ => ev H x), evalL_agree (σ' := { σ' with heap := H }) (σ := σ') (fun x _ => ev H x)]
    case call c =>
      refine .inr fun H => ?_
      simp only [pureOp, callV]; split <;> try rfl
      rw [evalL_agree (σ' := { σ' with heap := H }) (σ := σ') (fun x _ => ev H x)]
    all_goals first | exact .inl rfl | exact .inr fun _ => rfl
  rcases key with e | e
  · exact pureOp_agree h (rows_agree (by rw [← e]; exact hr))
  · rw [← e σ.heap]
    exact pureOp_agree (σ' := { σ' with heap := σ.heap }) (fun x hx => (by cases x <;> rfl : St.eval { σ' with heap := σ.heap } x = σ'.eval x).trans (h x hx)) (fun _ _ _ _ => rfl)
def newOp (P : Program) (σ : St) (r : Nat) : Op → Option (Row × PV)
  | .alloc e => match tyOf P e with
    | some y => match zeroPV y with
      | some p => some (rowOf e y.size p, .ptr r 0 0)
      | none => none
    | none => none
  | .box e x => match tyOf P e with
    | some y => match pvCells (σ.eval x) with
      | some l => if l.length = y.size ∧ 1 ≤ y.size then some (rowOf e y.size (σ.eval x), .ptr r 0 0) else none
      | none => none
    | none => none
  | .makeSlice t l c => match sliceElem P t, σ.eval l, σ.eval c with
    | some (e, z), .d (.int _ n), .d (.int _ m) => match zeroPV z with
      | some zp => guardO (0 ≤ n ∧ n ≤ m ∧ (z.bytes : Int) * m ≤ 281474976710656 ∧ m ≤ 9223372036854775807) (some ({ e, k := z.size, els := List.replicate n.toNat zp }, .slc r 0 n.toNat))
      | none => none
    | _, _, _ => none
  | .buildSlice t len parts => match sliceElem P t with
    | some (e, z) => if zeroOk z = true ∧ inOrder 0 parts.toList = true ∧ parts.toList.length = len ∧ sizesOk z.size (evalL σ (parts.toList.map (·.2))) = true ∧ len * z.size ≤ 16777216 then
        some ({ e, k := z.size, els := evalL σ (parts.toList.map (·.2)) }, .slc r 0 len) else none
    | none => none
  | _ => none
def storeOp (P : Program) (σ : St) : Op → Option (Nat × Row)
  | .store t ad x => match σ.eval ad with
    | .ptr r i off => match hget σ.heap r with
      | some row => match row.els[i]? with
        | some e => match tyOf P t, pvCells (σ.eval x), elemStore row.k e off (σ.eval x) with
          | some y, some l, some e' => if l.length = y.size then some (r, { row with els := row.els.set i e' }) else none
          | _, _, _ => none
        | none => none
      | none => none
    | _ => none
  | _ => none
theorem newOp_agree {op : Op} {r : Nat} (h : ∀ x ∈ opnds op, σ'.eval x = σ.eval x) : newOp P σ' r op = newOp P σ r op := by
  cases op <;> try rfl
  all_goals simp only [opnds, List.mem_cons, List.not_mem_nil, or_false, forall_eq_or_imp, forall_eq] at h
  case box e x => simp only [newOp, h]
  case makeSlice t l c => simp only [newOp, h.1, h.2]
  case buildSlice t len parts => simp only [newOp]; rw [evalL_agree h]
theorem storeOp_agree {op : Op} {r : Nat} {x : Row} (h : ∀ x ∈ opnds op, σ'.eval x = σ.eval x) (hs : storeOp P σ op = some (r, x)) (hr : hget σ'.heap r = hget σ.heap r) : storeOp P σ' op = some (r, x) := by
  unfold storeOp at hs ⊢
  split at hs <;> try (simp at hs; done)
  rename_i t ad y
  simp only [opnds, List.mem_cons, List.not_mem_nil, or_false, forall_eq_or_imp, forall_eq] at h
  simp only [h.1, h.2]
  split at hs <;> try (simp at hs; done)
  rename_i r1 i off ha
  have : r1 = r := by
    split at hs <;> try (simp at hs; done)
    split at hs <;> try (simp at hs; done)
    split at hs <;> try (simp at hs; done)
    split at hs <;> simp only [Option.some.injEq, Prod.mk.injEq, reduceCtorEq] at hs
    exact hs.1
  subst this
  rw [hr]; exact hs
variable {ro : Option Nat} {N : Nat} {o : Oper} {K : St → Prop}
theorem OpT.new {r : Nat} {x : Row} {p : PV} (h : newOp P σ r o.op = some (x, p)) (hd : dstOk N o.dst) (hr0 : hget σ.heap r = none) (hp0 : 1000 ≤ r) (hK : K (({ σ with heap := hput σ.heap r x } : St).put o.dst p)) : OpT P G ro N o σ K := by
  unfold newOp at h
  split at h <;> (try (simp at h; done)) <;> rename_i ho
  · split at h <;> try (simp at h; done)
    rename_i y hy
    split at h <;> simp only [Option.some.injEq, Prod.mk.injEq, reduceCtorEq] at h
    rename_i q hq; obtain ⟨rfl, rfl⟩ := h
    obtain ⟨z, h1, h2, h3, h4⟩ := zeroPV_some hq
    exact OpT.alloc ho hy h1 h2 ⟨h3, h4⟩ hd hr0 hp0 hK
  · split at h <;> try (simp at h; done)
    rename_i y hy
    split at h <;> try (simp at h; done)
    rename_i l hl
    split at h <;> simp only [Option.some.injEq, Prod.mk.injEq, reduceCtorEq] at h
    rename_i hc; obtain ⟨rfl, rfl⟩ := h
    exact OpT.box ho hy hl hc hd hr0 hp0 hK
  · split at h <;> try (simp at h; done)
    rename_i e z kl n kc m hse hl hc
    split at h <;> try (simp at h; done)
    rename_i zp hzp
    obtain ⟨⟨h0, h1, h2, h3⟩, h⟩ := guardO_some h
    simp only [Option.some.injEq, Prod.mk.injEq] at h; obtain ⟨rfl, rfl⟩ := h
    obtain ⟨y, hy, hde, he⟩ := sliceElem_parts hse
    obtain ⟨zv, h4, h5, h6, h7⟩ := zeroPV_some hzp
    exact OpT.makeSlice ho hy hde he h4 h5 h6 h7 hl hc h0 h1 h2 h3 hd hr0 hp0 hK
  · split at h <;> try (simp at h; done)
    rename_i e z hse
    split at h <;> simp only [Option.some.injEq, Prod.mk.injEq, reduceCtorEq] at h
    rename_i hc; obtain ⟨rfl, rfl⟩ := h
    obtain ⟨h1, h2, h3, h4, h5⟩ := hc
    obtain ⟨y, hy, hde, he⟩ := sliceElem_parts hse
    obtain ⟨zv, h6, h7, h8⟩ := zeroOk_some h1
    exact OpT.buildSlice ho hy hde he h6 h7 h8 h2 h3 h4 h5 hd hr0 hp0 hK
theorem OpT.store1 {r : Nat} {x : Row} (h : storeOp P σ o.op = some (r, x)) (hd : dstOk N o.dst) (hK : K (({ σ with heap := hput σ.heap r x } : St).put o.dst .any)) : OpT P G ro N o σ K := by
  unfold storeOp at h
  split at h <;> (try (simp at h; done)) ; rename_i ho
  split at h <;> try (simp at h; done)
  rename_i r1 i off ha
  split at h <;> try (simp at h; done)
  rename_i row hx
  split at h <;> try (simp at h; done)
  rename_i e he
  split at h <;> try (simp at h; done)
  rename_i y l e' hy hl hs
  split at h <;> simp only [Option.some.injEq, Prod.mk.injEq, reduceCtorEq] at h
  rename_i hc; obtain ⟨rfl, rfl⟩ := h
  exact OpT.store ho hy ha hx he hs hl hc hd hK
end
abbrev Foot := Option (List Key × List Key)
def dstKeys : Option Tmp → List Key
  | some d => [.t d]
  | none => []
def dstEff (dst : Option Tmp) (v : PV) : Eff :=
  match dst with
  | some d => [(.t d, .v v)]
  | none => []
theorem look_put (σ : St) (dst : Option Tmp) (v : PV) : (σ.put dst v).look = σ.look.app (dstEff dst v) := by
  funext k
  cases dst with
  | none => rfl
  | some d =>
    cases k with
    | t n =>
      simp only [St.put, St.look, dstEff, SF.app, efind, Key.t.injEq, eget_eput]
      by_cases h : d = n
      · simp [h]
      · simp [h, St.look]
    | h n => simp [St.put, St.look, dstEff, SF.app, efind]
theorem look_row (σ : St) (r : Nat) (x : Row) (dst : Option Tmp) (v : PV) : (({ σ with heap := hput σ.heap r x } : St).put dst v).look = σ.look.app (dstEff dst v ++ [(.h r, .r (some x))]) := by
  rw [look_put]
  funext k
  have e : ({ σ with heap := hput σ.heap r x } : St).look = σ.look.app [(.h r, .r (some x))] := by
    funext k
    cases k with
    | t n => simp [St.look, SF.app, efind]
    | h n =>
      simp only [St.look, SF.app, efind, Key.h.injEq, hget_hput]
      by_cases h : r = n
      · simp [h]
      · simp [h, St.look]
  rw [e]
  cases dst with
  | none => rfl
  | some d =>
    simp only [dstEff, SF.app, efind, List.cons_append, List.nil_append]
    by_cases h : Key.t d = k
    · simp [h]
    · simp [h]
theorem ekeys_dst (dst : Option Tmp) (v : PV) : ekeys (dstEff dst v) = dstKeys dst := by cases dst <;> rfl
theorem St.put_rest (σ : St) (dst : Option Tmp) (v : PV) : (σ.put dst v).rest = σ.rest := by cases dst <;> rfl
end Go.Pv

namespace Go.Pv
def maskOf (ms : List Nat) (o : Oper) : Nat := o.after.toList.foldl (fun m e => if Region.binds .any e then m ||| (2 ^ e.on ||| ms.getD e.on 0) else m) 0
def masksGo : List Oper → List Nat → List Nat
  | [], ms => ms
  | o :: l, ms => masksGo l (ms ++ [maskOf ms o])
def keysApart (l m : List Key) : Bool := l.all fun k => !m.contains k
def footApart : Foot → Foot → Bool
  | some (r, w), some (r', w') => keysApart w r' && keysApart w w' && keysApart w' r
  | _, _ => false
def drawRow (m : Nat) (f : Foot) : Nat → List Foot → Bool
  | _, [] => true
  | i, g :: l => (m.testBit i || footApart g f) && drawRow m f (i + 1) l
def drawRows : List Nat → List Foot → List Foot → Bool
  | m :: ms, seen, f :: l => drawRow m f 0 seen && drawRows ms (seen ++ [f]) l
  | _, _, [] => true
  | [], _, _ :: _ => false
def edgesBack : Nat → List Oper → Bool
  | _, [] => true
  | i, o :: l => (o.after.toList.all fun e => !Region.binds .any e || decide (e.on < i)) && edgesBack (i + 1) l
def chained (m : Nat) : Nat → List Nat → Bool
  | _, [] => true
  | j, x :: l => (decide (j < m) || (List.range j).all fun i => x.testBit i) && chained m (j + 1) l
theorem chained_get {m : Nat} : ∀ {l : List Nat} {i : Nat}, chained m i l = true → ∀ j, j < l.length → m ≤ i + j → ∀ k, k < i + j → (l.getD j 0).testBit k = true
  | x :: l, i, h, j, hj, hm, k, hk => by
    simp only [chained, Bool.and_eq_true, Bool.or_eq_true, decide_eq_true_eq, List.all_eq_true, List.mem_range] at h
    cases j with
    | zero => exact (h.1.resolve_left (by omega)) k (by omega)
    | succ j => 
      have := chained_get h.2 j (by simpa using hj) (by omega) k (by omega)
      simpa using this
def drawOk (ops : List Oper) (fs : List Foot) : Bool := decide (fs.length ≤ ops.length) && edgesBack 0 ops && drawRows (masksGo ops []) [] fs && chained fs.length 0 (masksGo ops [])
def barred (m : Nat) : Nat → List Nat → Bool
  | _, [] => true
  | j, x :: l => (decide (j < m) || (List.range m).all fun i => x.testBit i) && barred m (j + 1) l
theorem barred_get {m : Nat} : ∀ {l : List Nat} {i : Nat}, barred m i l = true → ∀ j, j < l.length → m ≤ i + j → ∀ k, k < m → (l.getD j 0).testBit k = true
  | x :: l, i, h, j, hj, hm, k, hk => by
    simp only [barred, Bool.and_eq_true, Bool.or_eq_true, decide_eq_true_eq, List.all_eq_true, List.mem_range] at h
    cases j with
    | zero => exact (h.1.resolve_left (by omega)) k hk
    | succ j =>
      have := barred_get h.2 j (by simpa using hj) (by omega) k hk
      simpa using this
def drawBar (ops : List Oper) (fs : List Foot) : Bool := decide (fs.length ≤ ops.length) && edgesBack 0 ops && drawRows (masksGo ops []) [] fs && barred fs.length 0 (masksGo ops [])
def chainOk (ops : List Oper) (m : Nat) : Bool := edgesBack 0 ops && chained m 0 (masksGo ops [])
theorem edgesBack_get : ∀ {l : List Oper} {i : Nat}, edgesBack i l = true → ∀ j (hj : j < l.length), ∀ e ∈ l[j].after.toList, Region.binds .any e = true → e.on < i + j
  | o :: l, i, h, j, hj, e, he, hb => by
    simp only [edgesBack, Bool.and_eq_true, List.all_eq_true] at h
    cases j with
    | zero =>
      have := h.1 e he
      simpa [hb] using this
    | succ j =>
      have := edgesBack_get h.2 j (by simpa using hj) e (by simpa using he) hb
      omega
theorem drawRow_get {m : Nat} {f : Foot} : ∀ {l : List Foot} {i : Nat}, drawRow m f i l = true → ∀ j (hj : j < l.length), m.testBit (i + j) = true ∨ footApart l[j] f = true
  | g :: l, i, h, j, hj => by
    simp only [drawRow, Bool.and_eq_true, Bool.or_eq_true] at h
    cases j with
    | zero => simpa using h.1
    | succ j =>
      have := drawRow_get h.2 j (by simpa using hj)
      rw [show i + (j + 1) = i + 1 + j by omega]
      simpa using this
theorem drawRows_get : ∀ {ms : List Nat} {seen l : List Foot}, drawRows ms seen l = true → ∀ j (hj : j < l.length), ∀ i (hi : i < seen.length + j),
    ((ms.getD j 0).testBit i = true ∨ footApart ((seen ++ l)[i]'(by simp; omega)) l[j] = true)
  | m :: ms, seen, f :: l, h, j, hj, i, hi => by
    simp only [drawRows, Bool.and_eq_true] at h
    cases j with
    | zero =>
      have := drawRow_get h.1 i (by simpa using hi)
      rw [Nat.zero_add] at this
      rw [List.getElem_append_left (by simpa using hi)]
      simpa using this
    | succ j =>
      have := drawRows_get h.2 j (by simpa using hj) i (by simp; omega)
      simpa [List.append_assoc] using this
  | [], _, _ :: _, h, _, _, _, _ => by simp [drawRows] at h
theorem footApart_some {f g : Foot} (h : footApart f g = true) : ∃ r w r' w', f = some (r, w) ∧ g = some (r', w') ∧ (∀ k ∈ w, k ∉ r' ∧ k ∉ w') ∧ ∀ k ∈ w', k ∉ r := by
  unfold footApart at h
  split at h <;> try (simp at h; done)
  rename_i r w r' w'
  simp only [keysApart, Bool.and_eq_true, List.all_eq_true, Bool.not_eq_true', List.contains_eq_mem, decide_eq_false_iff_not] at h
  exact ⟨r, w, r', w', rfl, rfl, fun k hk => ⟨h.1.1 k hk, h.1.2 k hk⟩, h.2⟩
theorem testBit_fold {ms : List Nat} {i : Nat} : ∀ (l : List Edge) (m : Nat), (l.foldl (fun m e => if Region.binds .any e then m ||| (2 ^ e.on ||| ms.getD e.on 0) else m) m).testBit i = true →
    m.testBit i = true ∨ ∃ e ∈ l, Region.binds .any e = true ∧ (e.on = i ∨ (ms.getD e.on 0).testBit i = true)
  | [], m, h => .inl h
  | e :: l, m, h => by
    simp only [List.foldl_cons] at h
    rcases testBit_fold l _ h with h | ⟨e', h1, h2, h3⟩
    · split at h
      · rename_i hb
        simp only [Nat.testBit_or, Bool.or_eq_true, Nat.testBit_two_pow, decide_eq_true_eq] at h
        rcases h with h | h | h
        · exact .inl h
        · exact .inr ⟨e, by simp, hb, .inl h⟩
        · exact .inr ⟨e, by simp, hb, .inr h⟩
      · exact .inl h
    · exact .inr ⟨e', by simp [h1], h2, h3⟩
theorem masksGo_len : ∀ (l : List Oper) (ms : List Nat), (masksGo l ms).length = ms.length + l.length
  | [], ms => rfl
  | o :: l, ms => by simp only [masksGo, masksGo_len l, List.length_append, List.length_cons, List.length_nil]; omega
theorem masksGo_ok {ops : Array Oper} : ∀ (l : List Oper) (ms : List Nat), (∃ pre, ops.toList = pre ++ l ∧ pre.length = ms.length) → (∀ j i, j < ms.length → (ms.getD j 0).testBit i = true → Prec ops i j) →
    ∀ j i, j < (masksGo l ms).length → ((masksGo l ms).getD j 0).testBit i = true → Prec ops i j
  | [], ms, _, h => h
  | o :: l, ms, ⟨pre, h1, h2⟩, h => by
    refine masksGo_ok l _ ⟨pre ++ [o], by rw [h1]; simp, by simp [h2]⟩ fun j i hj hb => ?_
    by_cases hjm : j < ms.length
    · exact h j i hjm (by simpa [List.getD, List.getElem?_append, hjm] using hb)
    · have hje : j = ms.length := by simp at hj; omega
      subst hje
      have hb : (maskOf ms o).testBit i = true := by simpa [List.getD] using hb
      have ho : ops[ms.length]? = some o := by
        rw [← Array.getElem?_toList, h1, ← h2]; simp
      rcases testBit_fold _ _ hb with hb | ⟨e, he, hbi, h3⟩
      · simp at hb
      · have hedge : edge ops e.on ms.length := ⟨o, ho, e, he, hbi, rfl⟩
        rcases h3 with h3 | h3
        · rw [h3] at hedge; exact .one hedge
        · rcases Nat.lt_or_ge e.on ms.length with hlt | hge
          · exact .more hedge (h _ _ hlt h3)
          · rw [List.getD_eq_getElem?_getD, List.getElem?_eq_none hge] at h3; simp at h3
def Foot.rd : Foot → Key → Prop
  | some (r, _), k => k ∈ r
  | none, _ => True
def Foot.covers : Foot → Eff → Prop
  | some (_, w), e => ∀ k ∈ ekeys e, k ∈ w
  | none, _ => True
section
variable {P : Program} {G : List (Nat × PD)} {ro : Option Nat} {N : Nat} {ops : Array Oper} {σ : St}
def DStep (P : Program) (G : List (Nat × PD)) (ro : Option Nat) (N : Nat) (xs : Exc) (ops : Array Oper) (o : Oper) (σ : St) (f : Foot) (σ1 : St) : Prop :=
  ∃ e, f.covers e ∧ exE xs e ∧ Loc P G ro N xs ops o f.rd e σ.rest σ.look ∧ σ1.look = σ.look.app e ∧ σ1.rest = σ.rest
def BOps (P : Program) (G : List (Nat × PD)) (ro : Option Nat) (N : Nat) (ops : Array Oper) (Q : St → Prop) (m : Nat) (l : List Oper) (σ : St) : Prop :=
  l = ops.toList.drop m → ∀ B : Base P, B.ro = ro → ∀ a w φ, Rep G B N σ a w φ → ∀ Q' : Exit → Act → World → Prop, (∀ τ a' w' φ', Q τ → Rep G B N τ a' w' φ' → Q' .normal a' w') →
    ∀ (fuel : Nat) (listed : Array Bool), listed.size = ops.size → (∀ i, i < ops.size → (listed.getD i true = true ↔ i < m)) → ops.size - m ≤ fuel → wpAnyIn (Fw ro) 0 P .any ops Q' fuel listed a w
inductive DOps (P : Program) (G : List (Nat × PD)) (ro : Option Nat) (N : Nat) (xs : Exc) (ops : Array Oper) (Q : St → Prop) : List Oper → List Foot → St → Prop
  | bar {l : List Oper} {acc : List Foot} {σ : St} (h : drawBar ops.toList acc = true) (hq : BOps P G ro N ops Q acc.length l σ) : DOps P G ro N xs ops Q l acc σ
  | step {o : Oper} {l : List Oper} {acc : List Foot} {σ σ1 : St} {f : Foot} (h : DStep P G ro N xs ops o σ f σ1) (h' : DOps P G ro N xs ops Q l (acc ++ [f]) σ1) : DOps P G ro N xs ops Q (o :: l) acc σ
theorem masks_edges {l : List Oper} (h7 : edgesBack 0 l = true) : (∀ j i, j < (masksGo l []).length → ((masksGo l []).getD j 0).testBit i = true → Prec l.toArray i j) ∧ ∀ i j, edge l.toArray i j → i < j := by
  refine ⟨masksGo_ok (ops := l.toArray) l [] ⟨[], by simp, rfl⟩ (fun j i hj => by simp at hj), ?_⟩
  rintro i j ⟨o, ho, e, he, hb, rfl⟩
  obtain ⟨hj, rfl⟩ := Array.getElem?_eq_some_iff.1 ho
  have := edgesBack_get h7 j (by simpa using hj) e (by simpa using he) hb
  omega
theorem BOps.chain {l : List Oper} {Q : St → Prop} {m : Nat} (h : chainOk ops.toList m = true) (hm : m ≤ ops.size) (hq : AOps P G ro N ops l σ Q) : BOps P G ro N ops Q m l σ := by
  intro hl B hro a w φ hr Q' hQ fuel listed hs hex hf
  simp only [chainOk, Bool.and_eq_true] at h
  obtain ⟨h1, h2⟩ := masks_edges h.1
  refine wpAny_chain (by simpa using h2) (fun j hj1 hj2 i hij => ?_) fuel m listed (Nat.le_refl _) hm hs hex hf a w ?_
  · have hj : j < ops.toList.length := by simpa using hj2
    have := chained_get h.2 j (by rw [masksGo_len]; simpa using hj) (by omega) i (by omega)
    simpa using h1 j i (by rw [masksGo_len]; simpa using hj) (by simpa using this)
  · rw [← hl]; exact hq B hro a w φ hr Q' hQ
theorem chained_barred {m : Nat} : ∀ {l : List Nat} {j : Nat}, chained m j l = true → barred m j l = true
  | [], _, _ => rfl
  | x :: l, j, h => by
    simp only [chained, barred, Bool.and_eq_true, Bool.or_eq_true, decide_eq_true_eq, List.all_eq_true, List.mem_range] at h ⊢
    refine ⟨?_, chained_barred h.2⟩
    rcases Nat.lt_or_ge j m with hj | hj
    · exact .inl hj
    · exact .inr fun i hi => (h.1.resolve_left (by omega)) i (by omega)
theorem DOps.stop {xs : Exc} {Q : St → Prop} {l : List Oper} {acc : List Foot} (h : drawOk ops.toList acc = true) (hq : AOps P G ro N ops l σ Q) : DOps P G ro N xs ops Q l acc σ := by
  simp only [drawOk, Bool.and_eq_true, decide_eq_true_eq] at h
  obtain ⟨⟨⟨h6, h7⟩, h8⟩, hch⟩ := h
  refine .bar ?_ (BOps.chain ?_ (by simpa using h6) hq)
  · simp only [drawBar, Bool.and_eq_true, decide_eq_true_eq]; exact ⟨⟨⟨h6, h7⟩, h8⟩, chained_barred hch⟩
  · simp only [chainOk, Bool.and_eq_true]; exact ⟨h7, hch⟩
theorem fold_congr {s0 : SF} {E E' : Nat → Eff} {D : Nat → Bool} : ∀ n, (∀ i, i < n → E i = E' i) → fold s0 E D n = fold s0 E' D n
  | 0, _ => rfl
  | n + 1, h => by simp only [fold]; rw [fold_congr n fun i hi => h i (by omega), h n (by omega)]
theorem DOps.unroll {xs : Exc} {s0 : SF} {b : Nat} {z : List PV × Gh} {Q : St → Prop} {l : List Oper} {acc : List Foot} {σ : St} (h : DOps P G ro N xs ops Q l acc σ) : ∀ (es : List Eff) (pre : List Oper), ops.toList = pre ++ l → acc.length = pre.length → es.length = pre.length → b ≤ pre.length →
    (∀ i (hi : i < pre.length), ∃ (h1 : i < acc.length), acc[i].covers (es.getD i []) ∧ exE xs (es.getD i []) ∧ (b ≤ i → Loc P G ro N xs ops pre[i] acc[i].rd (es.getD i []) z (fold s0 (fun i => es.getD i []) (fun _ => true) i))) →
    fold s0 (fun i => es.getD i []) (fun _ => true) pre.length = σ.look → σ.rest = z →
    ∃ (acc' : List Foot) (es' : List Eff) (τ : St), drawBar ops.toList acc' = true ∧ acc <+: acc' ∧ es <+: es' ∧ BOps P G ro N ops Q acc'.length (ops.toList.drop acc'.length) τ ∧ τ.rest = z ∧ (∀ i (hi : i < ops.size) (h1 : i < acc'.length), acc'[i].covers (es'.getD i []) ∧ exE xs (es'.getD i []) ∧ (b ≤ i → Loc P G ro N xs ops ops[i] acc'[i].rd (es'.getD i []) z (fold s0 (fun i => es'.getD i []) (fun _ => true) i))) ∧
      fold s0 (fun i => es'.getD i []) (fun _ => true) acc'.length = τ.look := by
  induction h with
  | @bar l acc σ h hq =>
    intro es pre h1 h2 h3 hbp h4 h5 h6
    refine ⟨acc, es, σ, h, List.prefix_refl _, List.prefix_refl _, ?_, h6, fun i hi h7 => ?_, by rw [h2]; exact h5⟩
    · have e : ops.toList.drop acc.length = l := by rw [h1, h2]; simp
      rw [e]; exact hq
    · obtain ⟨_, h8, h9⟩ := h4 i (by omega)
      have e : ops[i] = pre[i] := by
        have hi' : i < ops.toList.length := by simpa using hi
        have : ops.toList[i] = pre[i] := by simp only [h1]; rw [List.getElem_append_left (by omega)]
        simpa using this
      rw [e]; exact ⟨h8, h9⟩
  | @step o l acc σ σ1 f h h' ih =>
    intro es pre h1 h2 h3 hbp h4 h5 h6
    obtain ⟨e, h8, hx8, h9, h10, h11⟩ := h
    have hold : ∀ i, i < pre.length → (es ++ [e]).getD i [] = es.getD i [] := fun i hi => by
      simp [List.getD, List.getElem?_append, show i < es.length by omega]
    have hnew : (es ++ [e]).getD pre.length [] = e := by
      simp [List.getD, ← h3]
    have hf : ∀ i, i ≤ pre.length → fold s0 (fun i => (es ++ [e]).getD i []) (fun _ => true) i = fold s0 (fun i => es.getD i []) (fun _ => true) i := fun i hi =>
      fold_congr i fun j hj => hold j (by omega)
    have hih := ih (es ++ [e]) (pre ++ [o]) (by rw [h1]; simp) (by simp [h2]) (by simp [h3]) (by simp; omega) (fun i hi => ?_) ?_ (h11.trans h6)
    · obtain ⟨acc', es', τ, g1, g2, g3, g4⟩ := hih
      exact ⟨acc', es', τ, g1, (List.prefix_append _ _).trans g2, (List.prefix_append _ _).trans g3, g4⟩
    · by_cases hip : i < pre.length
      · obtain ⟨h13, h14, h15⟩ := h4 i hip
        refine ⟨by simp; omega, ?_⟩
        rw [List.getElem_append_left h13, List.getElem_append_left hip, hold i hip, hf i (by omega)]
        exact ⟨h14, h15⟩
      · have hie : i = pre.length := by simp at hi; omega
        subst hie
        refine ⟨by simp; omega, ?_⟩
        have e1 : (acc ++ [f])[pre.length]'(by simp; omega) = f := by simp [← h2]
        have e2 : (pre ++ [o])[pre.length]'(by simp) = o := by simp
        rw [e1, e2, hnew, hf _ (Nat.le_refl _), h5, ← h6]
        exact ⟨h8, hx8, fun _ => h9⟩
    · rw [show (pre ++ [o]).length = pre.length + 1 by simp]
      simp only [fold, if_true]
      rw [hf _ (Nat.le_refl _), h5, hnew]
      exact h10.symm
theorem Rep.same {B : Base P} {a : Act} {w : World} {φ : Nm} {τ : St} (hr : Rep G B N σ a w φ) (h : σ.look = τ.look) (hd : σ.rest = τ.rest) : Rep G B N τ a w φ := by
  have he : ∀ t, eget τ.env t = eget σ.env t := fun t => by
    have := congrFun h (.t t); simp only [St.look, Cont.v.injEq] at this; exact this.symm
  have hh : ∀ r, hget τ.heap r = hget σ.heap r := fun r => by
    have := congrFun h (.h r); simp only [St.look, Cont.r.injEq] at this; exact this.symm
  simp only [St.rest, Prod.mk.injEq] at hd
  have hrow : ∀ b, rowB φ τ.heap b → rowB φ σ.heap b := fun b ⟨r, x, h1, h2⟩ => ⟨r, x, by rw [← hh]; exact h1, h2⟩
  have hown : ∀ b, own φ τ.heap b → own φ σ.heap b := fun b h => h.imp (hrow b) id
  have hext : Ext w B.X φ σ.heap w φ τ.heap := by
    exact ⟨fun r x hx => ⟨x, by rw [hh]; exact hx, rfl, fun _ => rfl, rfl⟩, fun b kk hb => ⟨hb.1, hb.2.1, fun ho => hb.2.2 (hown b ho)⟩, fun b kk hb => ⟨hb.1, fun ho => hb.2 (hown b ho)⟩, fun _ kk _ => rfl, fun s y b _ _ c e f hh => ⟨c, e, f, hh, rfl⟩⟩
  refine Rep.of_sit ⟨⟨fun r x b hx hb => ?_, fun r x hx => hr.heap.void r x (hh r ▸ hx), fun r s x y b hx hy => hr.heap.inj r s x y b (hh r ▸ hx) (hh s ▸ hy), fun b hT => ⟨(hr.heap.far b hT).1, (hr.heap.far b hT).2.1, fun h => (hr.heap.far b hT).2.2 (hrow b h)⟩⟩, hr.keeps,
    fun r x b hx => hr.new r x b (hh r ▸ hx), fun r x hx => hr.pins r x (hh r ▸ hx), fun r x b hx => hr.psz r x b (hh r ▸ hx), ?_, hr.tnew, hd.2 ▸ J_step hr.inv rfl rfl rfl rfl (Nat.le_refl _) (fun _ _ _ => rfl) (fun b hb => .inl (hrow b hb))⟩ hr.size (fun t => ?_) (hd.1 ▸ hd.2 ▸ hr.dfr.ext hext)
  · exact (hr.heap.rows r x b (hh r ▸ hx) hb).ext hext rfl
  · exact hr.glob.ext hext (fun g x hm => by
      obtain ⟨_, _, _, _, _, h2, _⟩ := hr.glob g x hm
      exact fun ho => h2 (hown g ho))
  · rw [he]; exact (hr.env t).ext hext
theorem Rep.drawn {B : Base P} {a : Act} {w : World} {φ : Nm} (hr : Rep G B N σ a w φ) (n : Nat) : Rep G B N σ a { w with drawn := n } φ :=
  hr.world (ext_more (Nat.le_refl _) (fun _ _ => rfl) (fun r x b h1 h2 => hr.heap.lt h1 h2)) ⟨rfl, rfl, rfl, Nat.le_refl _, fun _ _ _ => rfl⟩ (fun r x b h1 h2 => rfl) (fun _ _ _ => rfl)
theorem RepV.rows {w : World} {X : Nat → Nat → Prop} {φ : Nm} {H : Heap} {v : Value} {p : PV} (hv : RepV w X φ H v p) : ∀ r ∈ rowsOf p, (hget H r).isSome = true := by
  have key : ∀ {ps : List PV}, (∀ i (hi : i < ps.length), ∀ r ∈ rowsOf ps[i], (hget H r).isSome = true) → ∀ r ∈ rowsOfL ps, (hget H r).isSome = true := by
    intro ps
    induction ps with
    | nil => intro _ r hr; simp [rowsOfL] at hr
    | cons p l ih =>
      intro h r hr
      simp only [rowsOfL, List.mem_append] at hr
      rcases hr with hr | hr
      · exact h 0 (by simp) r hr
      · exact ih (fun i hi => h (i + 1) (by simpa using hi)) r hr
  induction hv with
  | ptr hx hb => intro r hr; simp only [rowsOf, List.mem_singleton] at hr; subst hr; rw [hx]; rfl
  | slc hx => intro r hr; simp only [rowsOf, List.mem_singleton] at hr; subst hr; rw [hx]; rfl
  | mp hx => intro r hr; simp only [rowsOf, List.mem_singleton] at hr; subst hr; rw [hx]; rfl
  | slc0 hx => intro r hr; simp only [rowsOf, List.mem_singleton] at hr; subst hr; rw [hx]; rfl
  | func hs _ ih => intro r hr; simp only [rowsOf] at hr; exact key ih r hr
  | agg hs _ hf ih => intro r hr; simp only [rowsOf] at hr; exact key ih r hr
  | tuple hs _ ih => intro r hr; simp only [rowsOf] at hr; exact key ih r hr
  | _ => intro r hr; simp [rowsOf] at hr
theorem Rep.no_row {B : Base P} {a : Act} {w : World} {φ : Nm} (hr : Rep G B N σ a w φ) {r : Nat} (h : hget σ.heap r = none) (k : Key) : (σ.look k).rows.contains r = false := by
  have hno : ∀ l : List Nat, (∀ s ∈ l, (hget σ.heap s).isSome = true) → l.contains r = false := fun l hl => by
    rw [List.contains_eq_mem, decide_eq_false_iff_not]
    intro hm
    have := hl r hm
    rw [h] at this; cases this
  cases k with
  | t n => exact hno _ (hr.env n).rows
  | h n =>
    simp only [St.look]
    cases hx : hget σ.heap n with
    | none => rfl
    | some x =>
      refine hno _ fun s hs => ?_
      cases hφ : φ n with
      | none => simp only [Cont.rows] at hs; rw [hr.heap.void n x hx hφ] at hs; simp [rowsOfL] at hs
      | some b =>
        have key : ∀ (ps : List PV), (∀ i (hi : i < ps.length), ∀ r ∈ rowsOf ps[i], (hget σ.heap r).isSome = true) → ∀ r ∈ rowsOfL ps, (hget σ.heap r).isSome = true := by
          intro ps
          induction ps with
          | nil => intro _ r hr; simp [rowsOfL] at hr
          | cons p l ih =>
            intro h r hr
            simp only [rowsOfL, List.mem_append] at hr
            rcases hr with hr | hr
            · exact h 0 (by simp) r hr
            · exact ih (fun i hi => h (i + 1) (by simpa using hi)) r hr
        exact key x.els (fun i hi => by obtain ⟨v, h4⟩ := (hr.heap.rows n x b hx hφ).el i hi; exact h4.rows) s hs
def exNew (σ : St) : Exc → Prop
  | [] => True
  | (r, _) :: l => hget σ.heap r = none ∧ exNew σ l
theorem Rep.exOk {B : Base P} {a : Act} {w : World} {φ : Nm} (hr : Rep G B N σ a w φ) : ∀ {xs : Exc}, exNew σ xs → ∀ k, Pv.exOk xs k (σ.look k)
  | [], _, _ => trivial
  | (r, S) :: l, h, k => ⟨.inr (hr.no_row h.1 k), hr.exOk h.2 k⟩
def exEnv (r : Nat) (S : List Nat) : List (Nat × PV) → Prop
  | [] => True
  | (t, v) :: l => (S.contains t = true ∨ (rowsOf v).contains r = false) ∧ exEnv r S l
def exHeap (r : Nat) (S : List Nat) : Heap → Prop
  | [] => True
  | (s, x) :: l => (S.contains (s + 1000000) = true ∨ (rowsOfL x.els).contains r = false) ∧ exHeap r S l
def exIni (σ : St) : Exc → Prop
  | [] => True
  | (r, S) :: l => (hget σ.heap r = none ∨ (exEnv r S σ.env ∧ exHeap r S σ.heap)) ∧ exIni σ l
theorem exEnv_get {r : Nat} {S : List Nat} : ∀ {l : List (Nat × PV)}, exEnv r S l → ∀ n, S.contains n = true ∨ (rowsOf (eget l n)).contains r = false
  | [], _, n => .inr (by simp [eget, rowsOf])
  | (t, v) :: l, h, n => by
    simp only [eget]
    split
    · rename_i e; subst e; exact h.1
    · exact exEnv_get h.2 n
theorem exHeap_get {r : Nat} {S : List Nat} : ∀ {l : Heap}, exHeap r S l → ∀ n x, hget l n = some x → S.contains (n + 1000000) = true ∨ (rowsOfL x.els).contains r = false
  | [], _, n, x, hx => by simp [hget] at hx
  | (t, v) :: l, h, n, x, hx => by
    simp only [hget] at hx
    split at hx
    · rename_i e; subst e; cases hx; exact h.1
    · exact exHeap_get h.2 n x hx
theorem Rep.exIni {B : Base P} {a : Act} {w : World} {φ : Nm} (hr : Rep G B N σ a w φ) : ∀ {xs : Exc}, exIni σ xs → ∀ k, Pv.exOk xs k (σ.look k)
  | [], _, _ => trivial
  | (r, S) :: l, h, k => by
    refine ⟨?_, hr.exIni h.2 k⟩
    rcases h.1 with h1 | ⟨h1, h2⟩
    · exact .inr (hr.no_row h1 k)
    · cases k with
      | t n => exact exEnv_get h1 n
      | h n =>
        simp only [St.look]
        cases hx : hget σ.heap n with
        | none => exact .inr rfl
        | some x => exact exHeap_get h2 n x hx
theorem BOps.draw {l : List Oper} {Q : St → Prop} {m : Nat} (xs : Exc) (hxs : exIni σ xs) (hmo : m ≤ ops.size) (h : DOps P G ro N xs ops Q l (List.replicate m (some ([], []))) σ) : BOps P G ro N ops Q m l σ := by
  intro hl B hro a w φ hr Q' hq fuel listed hs hex hf
  have hnil : ∀ i, (List.replicate m ([] : Eff)).getD i [] = [] := fun i => by
    rw [List.getD_eq_getElem?_getD, List.getElem?_replicate]; split <;> rfl
  have hf0 : ∀ n, fold σ.look (fun i => (List.replicate m ([] : Eff)).getD i []) (fun _ => true) n = σ.look := by
    intro n
    induction n with
    | zero => rfl
    | succ n ih => simp only [fold, if_true]; rw [ih, hnil]; rfl
  obtain ⟨acc, es, τ, h1, hpa, hpe, h2, h3, h4, h5⟩ := DOps.unroll (s0 := σ.look) (b := m) (z := σ.rest) (ops := ops) h (List.replicate m []) (ops.toList.take m) (by rw [hl]; simp) (by simp; omega) (by simp; omega) (by simp; omega)
    (fun i hi => by
      have hi : i < m := by simp at hi; omega
      refine ⟨by simpa using hi, ?_, ?_, fun h => by omega⟩
      · rw [hnil]; simp [Foot.covers, ekeys]
      · rw [hnil]; trivial)
    (by rw [hf0]) rfl
  simp only [drawBar, Bool.and_eq_true, decide_eq_true_eq] at h1
  obtain ⟨⟨⟨h6, h7⟩, h8⟩, hch⟩ := h1
  have h6 : acc.length ≤ ops.size := by simpa using h6
  have hma : m ≤ acc.length := by have := hpa.length_le; simpa using this
  obtain ⟨hmask, hback⟩ := masks_edges h7
  have hback : ∀ i j, edge ops i j → i < j := by simpa using hback
  have hmask : ∀ j i, j < ops.size → ((masksGo ops.toList []).getD j 0).testBit i = true → Prec ops i j := fun j i hj hb => by
    simpa using hmask j i (by rw [masksGo_len]; simpa using hj) hb
  have hord : Ordered acc.length (fun i => es.getD i []) (fun i k => match acc[i]? with | some f => f.rd k | none => True) (Prec ops) := by
    refine ⟨fun i j h => h.lt hback, fun i j hij hja => ?_⟩
    have hj : j < ops.size := by omega
    rcases drawRows_get h8 j hja i (by simpa using hij) with h | h
    · exact .inl (hmask j i hj h)
    · obtain ⟨r, wr, r', wr', h9, h10, h11, h12⟩ := footApart_some h
      have hi : i < acc.length := by omega
      rw [show ([] ++ acc)[i]'(by simpa using hi) = acc[i] from rfl] at h9
      obtain ⟨hc1, _, _⟩ := h4 i (by omega) hi
      obtain ⟨hc2, _, _⟩ := h4 j hj hja
      rw [h9] at hc1; rw [h10] at hc2
      refine .inr ⟨fun k hk => ⟨?_, fun hk' => (h11 k (hc1 k hk)).2 (hc2 k hk')⟩, fun k hk => ?_⟩
      · simp only [List.getElem?_eq_getElem hja, h10, Foot.rd]
        exact (h11 k (hc1 k hk)).1
      · simp only [List.getElem?_eq_getElem hi, h9, Foot.rd]
        exact h12 k (hc2 k hk)
  have hlis : ∀ i, i < m → listed.getD i true = true := fun i hi => (hex i (by omega)).2 hi
  have hcnt : (List.range ops.size).countP (fun i => listed.getD i true) = m := by
    rw [← countP_lt ops.size m hmo]
    exact List.countP_congr (fun i hi => by rw [hex i (by simpa using hi)]; simp)
  refine wpAny_seg (P := P) (G := G) (ro := ro) (N := N) (s0 := σ.look) (z := σ.rest) (B := B) (b := m) (m := acc.length) (E := fun i => es.getD i []) h6 hord hback (fun i hi hbi him => ?_) (fun j hj1 hj2 i hij => ?_) (hr.exIni hxs) (fun i him => (h4 i (by omega) him).2.1) hro (fun fuel' listed' hs' hex' hf' a' w' hR => ?_) fuel listed hs (fun i j hij hj hjs => ?_) (fun j hj hjs => ?_) hlis (by rw [hcnt]; exact hf) _ _ ?_
  · obtain ⟨_, _, h10⟩ := h4 i hi him
    simp only [List.getElem?_eq_getElem him]
    exact h10 hbi
  · have := barred_get hch j (by rw [masksGo_len]; simpa using hj2) (by omega) i hij
    exact hmask j i hj2 this
  · obtain ⟨σ', φ', hd', hl', hr'⟩ := hR
    exact h2 rfl B hro a' w' φ' (hr'.same (by rw [hl', h5]) (hd'.trans h3.symm)) Q' hq fuel' listed' hs' hex' hf'
  · have h1 := (hex j hjs).1 hj
    have := hij.lt hback
    exact hlis i (by omega)
  · cases hlj : listed.getD j true with
    | false => rfl
    | true => have := (hex j hjs).1 hlj; omega
  · refine ⟨σ, φ, rfl, ?_, hr⟩
    have : ∀ n, n ≤ ops.size → fold σ.look (fun i => es.getD i []) (fun i => listed.getD i true) n = σ.look := by
      intro n
      induction n with
      | zero => intro _; rfl
      | succ n ih =>
        intro hn
        simp only [fold]
        split
        · rename_i hln
          have hnm := (hex n (by omega)).1 hln
          have e : es.getD n [] = [] := by
            obtain ⟨t, ht⟩ := hpe
            rw [← ht, List.getD_eq_getElem?_getD, List.getElem?_append_left (by simpa using hnm), List.getElem?_replicate]; simp [hnm]
          rw [e, ih (by omega)]; funext k; rfl
        · exact ih (by omega)
    exact (this acc.length h6).symm
theorem AWp.drawX {id : Nat} {l : List Oper} {Q : Post} (hm : P.follows .mixedOrders = true) (xs : Exc) (hxs : exIni σ xs) (h : DOps P G ro N xs l.toArray (Q .normal) l [] σ) : AWp P G ro N (.region id l.toArray true) σ Q := by
  intro B hro a w φ hr Q' hq
  refine wpIn_region_any hm ?_
  exact BOps.draw xs hxs (Nat.zero_le _) h (by simp) B hro a _ φ (hr.drawn _) Q' (fun τ a'' w'' φ'' hQ hr'' => hq .normal τ a'' w'' φ'' hQ hr'') _ _ (by simp) (fun i hi => by
    have : i < l.length := by simpa using hi
    simp [Array.getD, this]) (by omega)
theorem exIni_of : ∀ {xs : Exc}, exNew σ xs → exIni σ xs
  | [], _ => trivial
  | (_, _) :: _, h => ⟨.inl h.1, exIni_of h.2⟩
theorem AWp.draw {id : Nat} {l : List Oper} {Q : Post} (hm : P.follows .mixedOrders = true) (xs : Exc) (hxs : exNew σ xs) (h : DOps P G ro N xs l.toArray (Q .normal) l [] σ) : AWp P G ro N (.region id l.toArray true) σ Q :=
  AWp.drawX hm xs (exIni_of hxs) h
end
end Go.Pv

namespace Go.Pv
def Foot.plus (g : List Key) : Foot → Foot
  | some (r, w) => some (g ++ r, w)
  | none => none
def gkeys (ds : List (Option Tmp)) : Option (Nat × Bool) → List Key
  | some (j, _) => match ds[j]? with
    | some (some d) => [.t d]
    | _ => []
  | none => []
section
variable {P : Program} {G : List (Nat × PD)} {ro : Option Nat} {N : Nat} {xs : Exc} {ops : Array Oper} {σ : St} {o : Oper}
def Loc0 (P : Program) (G : List (Nat × PD)) (ro : Option Nat) (N : Nat) (xs : Exc) (o : Oper) (rd : Key → Prop) (e : Eff) (σ : St) : Prop :=
  ∀ σ' : St, σ'.rest = σ.rest → (∀ k, rd k → σ'.look k = σ.look k) → (∀ k, exOk xs k (σ'.look k)) → OpT P G ro N o σ' (fun τ => τ.rest = σ.rest ∧ τ.look = σ'.look.app e)
def OpD (P : Program) (G : List (Nat × PD)) (ro : Option Nat) (N : Nat) (xs : Exc) (o : Oper) (σ : St) (f : Foot) (σ1 : St) : Prop :=
  ∃ e, f.covers e ∧ exE xs e ∧ Loc0 P G ro N xs o f.rd e σ ∧ σ1.look = σ.look.app e ∧ σ1.rest = σ.rest
def OpX (P : Program) (G : List (Nat × PD)) (ro : Option Nat) (N : Nat) (xs : Exc) (o : Oper) (σ : St) (K : Foot → St → Prop) : Prop := ∃ f σ1, OpD P G ro N xs o σ f σ1 ∧ K f σ1
theorem Foot.rd_plus {g : List Key} {f : Foot} {k : Key} (h : f.rd k) : (f.plus g).rd k := by
  cases f with
  | none => trivial
  | some p => obtain ⟨r, w⟩ := p; exact List.mem_append_right _ h
theorem Foot.covers_plus {g : List Key} {f : Foot} {e : Eff} (h : f.covers e) : (f.plus g).covers e := by
  cases f with
  | none => trivial
  | some p => obtain ⟨r, w⟩ := p; exact h
theorem DStep.plain {f : Foot} {σ1 : St} (hg : o.guard = none) (h : OpD P G ro N xs o σ f σ1) : DStep P G ro N xs ops o σ f σ1 := by
  obtain ⟨e, h1, hx, h2, h3, h4⟩ := h
  refine ⟨e, h1, hx, fun s' hs hex B hro a w hR next Q hn => ?_, h3, h4⟩
  obtain ⟨σ', φ, hd, hl, hr⟩ := hR
  simp only [Region.wanted, hg, if_true]
  refine h2 σ' hd (fun k hk => by rw [hl]; exact hs k hk) (fun k => by rw [hl]; exact hex k) B hro a w φ hr next Q fun τ a' w' φ' ht hr' => hn a' w' ⟨τ, φ', ht.1, by rw [ht.2, hl], hr'⟩
theorem gval_look {σ' : St} {ds : List (Option Tmp)} {j : Nat} {want : Bool} (h : ∀ k ∈ gkeys ds (some (j, want)), σ'.look k = σ.look k) : gval σ' ds j = gval σ ds j := by
  unfold gval
  simp only [gkeys] at h
  cases hd : ds[j]? with
  | none => rfl
  | some od =>
    cases od with
    | none => rfl
    | some d =>
      have := h (.t d) (by rw [hd]; simp)
      simp only [St.look, Cont.v.injEq] at this
      simp only [this]
theorem DStep.yes {f : Foot} {σ1 : St} {j : Nat} {want : Bool} (hg : o.guard = some (j, want)) (hb : gval σ (dsts ops) j = some want) (h : OpD P G ro N xs o σ f σ1) : DStep P G ro N xs ops o σ (f.plus (gkeys (dsts ops) o.guard)) σ1 := by
  obtain ⟨e, h1, hx, h2, h3, h4⟩ := h
  refine ⟨e, Foot.covers_plus h1, hx, fun s' hs hex B hro a w hR next Q hn => ?_, h3, h4⟩
  obtain ⟨σ', φ, hd, hl, hr⟩ := hR
  have hgv : gval σ' (dsts ops) j = some want := by
    cases f with
    | none => rw [gval_look (σ := σ) (want := want) fun k hk => by rw [hl]; exact hs k trivial]; exact hb
    | some p => obtain ⟨r, wr⟩ := p; rw [gval_look (σ := σ) (want := want) fun k hk => by rw [hl]; exact hs k (List.mem_append_left _ (by rw [hg]; exact hk))]; exact hb
  have hy := gval_ok hr hgv
  simp only [Region.wanted, hg, hy, beq_self_eq_true, if_true]
  refine h2 σ' hd (fun k hk => by rw [hl]; exact hs k (Foot.rd_plus hk)) (fun k => by rw [hl]; exact hex k) B hro a w φ hr next Q fun τ a' w' φ' ht hr' => hn a' w' ⟨τ, φ', ht.1, by rw [ht.2, hl], hr'⟩
theorem exOk_any (xs : Exc) (k : Key) : exOk xs k (.v .any) := by
  induction xs with
  | nil => trivial
  | cons x l ih => obtain ⟨r, S⟩ := x; exact ⟨.inr (by simp [Cont.rows, rowsOf]), ih⟩
theorem exE_any (dst : Option Tmp) : exE xs (dstEff dst .any) := by
  cases dst with
  | none => trivial
  | some d => exact ⟨exOk_any _ _, trivial⟩
theorem DStep.no {j : Nat} {want b : Bool} (hg : o.guard = some (j, want)) (hb : gval σ (dsts ops) j = some b) (hne : b ≠ want) (hd : dstOk N o.dst) :
    DStep P G ro N xs ops o σ (some (gkeys (dsts ops) o.guard, dstKeys o.dst)) (σ.put o.dst .any) := by
  refine ⟨dstEff o.dst .any, fun k hk => by rw [ekeys_dst] at hk; exact hk, exE_any _, fun s' hs _ B hro a w hR next Q hn => ?_, look_put _ _ _, St.put_rest _ _ _⟩
  obtain ⟨σ', φ, hd', hl, hr⟩ := hR
  have hgv : gval σ' (dsts ops) j = some b := by
    rw [gval_look (σ := σ) (want := want) fun k hk => by rw [hl]; exact hs k (by rw [hg]; exact hk)]; exact hb
  have hy := gval_ok hr hgv
  have : (some b == some want) = false := by simp [hne]
  simp only [Region.wanted, hg, hy, this, Bool.false_eq_true, if_false]
  exact ⟨fun _ _ => trivial, hn _ _ ⟨σ'.put o.dst .any, φ, by rw [St.put_rest]; exact hd', by rw [look_put, hl], hr.put_undef hd⟩⟩
def St.keys (σ : St) : List Key := σ.env.map (fun x => .t x.1) ++ σ.heap.map (fun x => .h x.1)
theorem eget_none {l : List (Nat × PV)} {t : Nat} (h : t ∉ l.map (·.1)) : eget l t = .any := by
  induction l with
  | nil => rfl
  | cons x l ih =>
    obtain ⟨s, v⟩ := x
    simp only [List.map_cons, List.mem_cons, not_or] at h
    simp only [eget]; rw [if_neg (Ne.symm h.1)]; exact ih h.2
theorem hget_none {l : Heap} {t : Nat} (h : t ∉ l.map (·.1)) : hget l t = none := by
  induction l with
  | nil => rfl
  | cons x l ih =>
    obtain ⟨s, v⟩ := x
    simp only [List.map_cons, List.mem_cons, not_or] at h
    simp only [hget]; rw [if_neg (Ne.symm h.1)]; exact ih h.2
theorem look_none {k : Key} (h : k ∉ σ.keys) : σ.look k = match k with | .t _ => .v .any | .h _ => .r none := by
  simp only [St.keys, List.mem_append, List.mem_map, not_or, not_exists, not_and] at h
  cases k with
  | t n => simp only [St.look]; rw [eget_none (by simp only [List.mem_map, not_exists, not_and]; exact fun x hx he => h.1 x hx (by rw [he]))]
  | h n => simp only [St.look]; rw [hget_none (by simp only [List.mem_map, not_exists, not_and]; exact fun x hx he => h.2 x hx (by rw [he]))]
def allEff (σ τ : St) : Eff := (σ.keys ++ τ.keys).map fun k => (k, τ.look k)
theorem efind_map {f : Key → Cont} {l : List Key} {k : Key} : efind (l.map fun k => (k, f k)) k = if k ∈ l then some (f k) else none := by
  induction l with
  | nil => rfl
  | cons x l ih =>
    simp only [List.map_cons, efind, ih, List.mem_cons]
    by_cases h : x = k
    · subst h; simp
    · rw [if_neg h]; simp [Ne.symm h]
theorem app_all (σ τ : St) : σ.look.app (allEff σ τ) = τ.look := by
  funext k
  simp only [SF.app, allEff, efind_map]
  by_cases h : k ∈ σ.keys ++ τ.keys
  · rw [if_pos h]; rfl
  · rw [if_neg h]
    simp only [List.mem_append, not_or] at h
    rw [Option.getD_none, look_none h.1, look_none h.2]
    cases k <;> rfl
theorem OpD.solo {σ1 : St} (hxs : xs = []) (hd1 : σ1.rest = σ.rest) (h : OpT P G ro N o σ (fun τ => τ = σ1)) : OpD P G ro N xs o σ none σ1 := by
  refine ⟨allEff σ σ1, trivial, by rw [hxs, exE_nil]; trivial, fun σ' hd hs _ => ?_, (app_all _ _).symm, hd1⟩
  have hl : σ'.look = σ.look := funext fun k => hs k trivial
  intro B hro a w φ hr next Q hn
  exact h B hro a w φ (hr.same hl hd) next Q fun τ a' w' φ' ht hr' => by
    subst ht
    exact hn τ a' w' φ' ⟨hd1, by rw [hl, app_all]⟩ hr'
theorem OpD.pure {v : PV} (h : pureOp P G σ o.op = some v) (hd : dstOk N o.dst) (hx : exE xs (dstEff o.dst v)) :
    OpD P G ro N xs o σ (some (tmpKeys (opnds o.op) ++ pureRd σ o.op, dstKeys o.dst)) (σ.put o.dst v) := by
  refine ⟨dstEff o.dst v, fun k hk => by rw [ekeys_dst] at hk; exact hk, hx, fun σ' hd' hs _ => ?_, look_put _ _ _, St.put_rest _ _ _⟩
  have h1 := eval_agree (σ := σ) (σ' := σ') (l := opnds o.op) fun k hk => hs k (List.mem_append_left _ hk)
  exact OpT.pure (by rw [pureOp_agree' h1 fun k hk => hs k (List.mem_append_right _ hk)]; exact h) hd ⟨by rw [St.put_rest]; exact hd', look_put _ _ _⟩
theorem OpD.new {r : Nat} {xp : Row × PV} (h : newOp P σ r o.op = some xp) (hd : dstOk N o.dst) (hr0 : hget σ.heap r = none) (hp0 : 1000 ≤ r) (hx : exE xs (dstEff o.dst xp.2 ++ [(.h r, .r (some xp.1))])) :
    OpD P G ro N xs o σ (some (.h r :: tmpKeys (opnds o.op), dstKeys o.dst ++ [.h r])) (({ σ with heap := hput σ.heap r xp.1 } : St).put o.dst xp.2) := by
  refine ⟨dstEff o.dst xp.2 ++ [(.h r, .r (some xp.1))], fun k hk => ?_, hx, fun σ' hd' hs _ => ?_, look_row _ _ _ _ _, St.put_rest _ _ _⟩
  · have := ekeys_dst o.dst xp.2
    simp only [ekeys, List.map_append, List.map_cons, List.map_nil] at hk this
    rw [this] at hk; exact hk
  · have h1 := eval_agree (σ := σ) (σ' := σ') (l := opnds o.op) fun k hk => hs k (List.mem_cons_of_mem _ hk)
    have h2 : hget σ'.heap r = none := by
      have := hs (.h r) (List.mem_cons_self ..)
      simp only [St.look, Cont.r.injEq] at this
      rw [this, hr0]
    exact OpT.new (x := xp.1) (p := xp.2) (by rw [newOp_agree h1]; exact h) hd h2 hp0 ⟨by rw [St.put_rest]; exact hd', look_row _ _ _ _ _⟩
theorem OpD.store {rx : Nat × Row} (h : storeOp P σ o.op = some rx) (hd : dstOk N o.dst) (hx : exE xs (dstEff o.dst .any ++ [(.h rx.1, .r (some rx.2))])) :
    OpD P G ro N xs o σ (some (.h rx.1 :: tmpKeys (opnds o.op), dstKeys o.dst ++ [.h rx.1])) (({ σ with heap := hput σ.heap rx.1 rx.2 } : St).put o.dst .any) := by
  refine ⟨dstEff o.dst .any ++ [(.h rx.1, .r (some rx.2))], fun k hk => ?_, hx, fun σ' hd' hs _ => ?_, look_row _ _ _ _ _, St.put_rest _ _ _⟩
  · have := ekeys_dst o.dst .any
    simp only [ekeys, List.map_append, List.map_cons, List.map_nil] at hk this
    rw [this] at hk; exact hk
  · have h1 := eval_agree (σ := σ) (σ' := σ') (l := opnds o.op) fun k hk => hs k (List.mem_cons_of_mem _ hk)
    have h2 : hget σ'.heap rx.1 = hget σ.heap rx.1 := by
      have := hs (.h rx.1) (List.mem_cons_self ..)
      simpa only [St.look, Cont.r.injEq] using this
    exact OpT.store1 (r := rx.1) (x := rx.2) (storeOp_agree h1 h h2) hd ⟨by rw [St.put_rest]; exact hd', look_row _ _ _ _ _⟩
theorem evalL_mem {σ : St} : ∀ {l : List Operand} {p : PV}, p ∈ evalL σ l → ∃ x ∈ l, σ.eval x = p
  | x :: l, p, h => by
    simp only [evalL, List.mem_cons] at h
    rcases h with rfl | h
    · exact ⟨x, by simp, rfl⟩
    · obtain ⟨y, h1, h2⟩ := evalL_mem h
      exact ⟨y, by simp [h1], h2⟩
  | [], _, h => by simp [evalL] at h
theorem OpX.call {K : Foot → St → Prop} {c : Call} {f : FuncId} {args : List PV} {res : PV} (ho : o.op = .call c) (hc : c.callee = .value (.func f)) (hcal : callable P f = true)
    (hf : PureFn P G f args res) (ha : argsOk σ.heap (evalL σ c.args.toList) args) (hd : dstOk N o.dst) (hres : dOnly res) (hx : exE xs (dstEff o.dst res))
    (hK : K (some (tmpKeys (opnds o.op) ++ rowKeys σ (opnds o.op), dstKeys o.dst)) (σ.put o.dst res)) : OpX P G ro N xs o σ K := by
  refine ⟨some (tmpKeys (opnds o.op) ++ rowKeys σ (opnds o.op), dstKeys o.dst), σ.put o.dst res, ⟨dstEff o.dst res, fun k hk => by rw [ekeys_dst] at hk; exact hk, hx, fun σ' hd' hs _ => ?_, look_put _ _ _, St.put_rest _ _ _⟩, hK⟩
  have h1 := eval_agree (σ := σ) (σ' := σ') (l := opnds o.op) fun k hk => hs k (List.mem_append_left _ hk)
  have h2 := rows_agree (σ := σ) (σ' := σ') (l := opnds o.op) fun k hk => hs k (List.mem_append_right _ hk)
  rw [ho] at h1 h2
  refine OpT.call ho hc hcal hf ?_ hd ⟨by rw [St.put_rest]; exact hd', look_put _ _ _⟩ hres
  rw [evalL_agree (l := c.args.toList) h1]
  refine argsOk_agree (fun p hp r hr => ?_) ha
  obtain ⟨x, h3, rfl⟩ := evalL_mem hp
  exact h2 x h3 r hr
theorem OpX.solo {K : Foot → St → Prop} {σ1 : St} (hxs : xs = []) (hd1 : σ1.rest = σ.rest) (h : OpT P G ro N o σ (fun τ => τ = σ1)) (hK : K none σ1) : OpX P G ro N xs o σ K := ⟨none, σ1, OpD.solo hxs hd1 h, hK⟩
def dvStep (P : Program) (G : List (Nat × PD)) (ro : Option Nat) (N : Nat) (xs : Exc) (o : Oper) (σ : St) (K : Foot → St → Prop) : Prop :=
  dstOk N o.dst ∧ match pureOp P G σ o.op with
  | some v => exE xs (dstEff o.dst v) ∧ K (some (tmpKeys (opnds o.op) ++ pureRd σ o.op, dstKeys o.dst)) (σ.put o.dst v)
  | none => match newOp P σ (fresh σ.heap) o.op with
    | some xp => exE xs (dstEff o.dst xp.2 ++ [(.h (fresh σ.heap), .r (some xp.1))]) ∧ K (some (.h (fresh σ.heap) :: tmpKeys (opnds o.op), dstKeys o.dst ++ [.h (fresh σ.heap)])) (({ σ with heap := hput σ.heap (fresh σ.heap) xp.1 } : St).put o.dst xp.2)
    | none => match storeOp P σ o.op with
      | some rx => exE xs (dstEff o.dst .any ++ [(.h rx.1, .r (some rx.2))]) ∧ K (some (.h rx.1 :: tmpKeys (opnds o.op), dstKeys o.dst ++ [.h rx.1])) (({ σ with heap := hput σ.heap rx.1 rx.2 } : St).put o.dst .any)
      | none => match xs, memOp P σ o.dst o.op with
        | [], some σ' => σ'.rest = σ.rest ∧ K none σ'
        | _, _ => OpX P G ro N xs o σ K
theorem OpX.vc {K : Foot → St → Prop} (h : dvStep P G ro N xs o σ K) : OpX P G ro N xs o σ K := by
  obtain ⟨hd, h⟩ := h
  split at h
  · rename_i v hv; exact ⟨_, _, OpD.pure hv hd h.1, h.2⟩
  · split at h
    · rename_i xp hx; exact ⟨_, _, OpD.new hx hd (hget_fresh _) (fresh_ge _) h.1, h.2⟩
    · split at h
      · rename_i rx hx; exact ⟨_, _, OpD.store hx hd h.1, h.2⟩
      · split at h
        · rename_i σ' hs; exact ⟨_, _, OpD.solo rfl h.1 (OpT.mem hs hd rfl), h.2⟩
        · exact h
def dvOp (P : Program) (G : List (Nat × PD)) (ro : Option Nat) (N : Nat) (xs : Exc) (ds : List (Option Tmp)) (o : Oper) (σ : St) (K : Foot → St → Prop) : Prop :=
  match o.guard with
  | none => dvStep P G ro N xs o σ K
  | some (j, want) => match gval σ ds j with
    | some b => (b = want → dvStep P G ro N xs o σ (fun f σ1 => K (f.plus (gkeys ds o.guard)) σ1)) ∧ (b ≠ want → dstOk N o.dst ∧ K (some (gkeys ds o.guard, dstKeys o.dst)) (σ.put o.dst .any))
    | none => False
theorem DOps.cons {rest : List Oper} {acc : List Foot} {Q : St → Prop} (h : ∀ K : Foot → St → Prop, (∀ f σ1, DOps P G ro N xs ops Q rest (acc ++ [f]) σ1 → K f σ1) → dvOp P G ro N xs (dsts ops) o σ K) :
    DOps P G ro N xs ops Q (o :: rest) acc σ := by
  have h := h (fun f σ1 => DOps P G ro N xs ops Q rest (acc ++ [f]) σ1) (fun _ _ h => h)
  unfold dvOp at h
  split at h
  · rename_i hg
    obtain ⟨f, σ1, h1, h2⟩ := OpX.vc h
    exact .step (DStep.plain hg h1) h2
  · rename_i j want hg
    split at h
    · rename_i b hb
      by_cases hbw : b = want
      · subst hbw
        obtain ⟨f, σ1, h1, h2⟩ := OpX.vc (h.1 rfl)
        exact .step (DStep.yes hg hb h1) h2
      · obtain ⟨h1, h2⟩ := h.2 hbw
        exact .step (DStep.no hg hb hbw h1) h2
    · exact h.elim
theorem DOps.nil {acc : List Foot} {Q : St → Prop} (h : drawOk ops.toList acc = true) (hq : Q σ) : DOps P G ro N xs ops Q [] acc σ := .stop h (AOps.nil hq)
end
end Go.Pv

namespace Go.Pv
attribute [go_sem] valRows valRowsL optOp opnds tmpKeys rowKeys pureRd newOp storeOp dstKeys gkeys Foot.plus dvOp dvStep exE exOk exE_nil exNew dstEff Cont.rows rowsOf rowsOfL Key.among List.contains_cons List.contains_nil
end Go.Pv

namespace Go.Pv
mutual
def PV.ren (g : Nat → Nat) : PV → PV
  | .ptr r i off => .ptr (g r) i off
  | .slc r lo n => .slc (g r) lo n
  | .mp r => .mp (g r)
  | .func fn l => .func fn (renL g l)
  | .agg l => .agg (renL g l)
  | .tuple l => .tuple (renL g l)
  | .any => .any
  | .d x => .d x
  | .b x => .b x
  | .dptr k els i off => .dptr k els i off
  | .bptr k els i off => .bptr k els i off
  | .glob n => .glob n
  | .val v => .val v
def renL (g : Nat → Nat) : List PV → List PV
  | [] => []
  | p :: l => p.ren g :: renL g l
end
theorem renL_length (g : Nat → Nat) : ∀ l : List PV, (renL g l).length = l.length
  | [] => rfl
  | p :: l => by simp only [renL, List.length_cons, renL_length g l]
theorem renL_get (g : Nat → Nat) : ∀ (l : List PV) (i : Nat) (hi : i < l.length) (hi' : i < (renL g l).length), (renL g l)[i] = (l[i]).ren g
  | p :: l, 0, _, _ => by simp [renL]
  | p :: l, i + 1, hi, hi' => by simpa [renL] using renL_get g l i (by simpa using hi) (by simpa [renL] using hi')
  | [], i, hi, _ => by simp at hi
def Row.ren (g : Nat → Nat) (x : Row) : Row := { x with els := renL g x.els }
theorem renL_map (g : Nat → Nat) : ∀ l : List PV, renL g l = l.map (PV.ren g)
  | [] => by simp [renL]
  | p :: l => by simp [renL, renL_map g l]
theorem ren_byte (g : Nat → Nat) {p : PV} (h : isByte p = true) : p.ren g = p := by
  cases p <;> simp [isByte] at h
  simp [PV.ren]
theorem ren_byte_of {g : Nat → Nat} {p : PV} (h : isByte (p.ren g) = true) : isByte p = true := by
  cases p <;> simp [PV.ren, isByte] at h ⊢
  exact h
theorem headOk.of_ren {g : Nat → Nat} {z : Nat} {l : List PV} (h : headOk z (renL g l)) : headOk z l := fun i hi => by
  obtain ⟨p, h1, h2⟩ := h i hi
  rw [renL_map, List.getElem?_map, Option.map_eq_some_iff] at h1
  obtain ⟨q, h3, rfl⟩ := h1
  exact ⟨q, h3, ren_byte_of h2⟩
mutual
def clean : PV → Prop
  | .b _ => False
  | .bptr _ _ _ _ => False
  | .func _ l => cleanL l
  | .agg l => cleanL l
  | .tuple l => cleanL l
  | .any => True
  | .d _ => True
  | .dptr _ _ _ _ => True
  | .ptr _ _ _ => True
  | .slc _ _ _ => True
  | .mp _ => True
  | .glob _ => True
  | .val _ => True
def cleanL : List PV → Prop
  | [] => True
  | p :: l => clean p ∧ cleanL l
end
theorem cleanL_get : ∀ {l : List PV}, cleanL l → ∀ i (hi : i < l.length), clean l[i]
  | [], _, i, hi => by simp at hi
  | p :: l, h, 0, _ => h.1
  | p :: l, h, i + 1, hi => by simpa using cleanL_get h.2 i (by simpa using hi)
structure Hand (σ : St) (H : Heap) (g : Nat → Nat) : Prop where
  pin : ∀ r x, hget H r = some x → r < 1000
  row : ∀ r x, hget H r = some x → hget σ.heap (g r) = some (x.ren g)
  inj : ∀ r s x y, hget H r = some x → hget H s = some y → g r = g s → r = s
  refs : ∀ r x, hget H r = some x → refsInL H x.els
structure Hand0 (σ : St) (H : Heap) (g : Nat → Nat) : Prop where
  row : ∀ r x, hget H r = some x → hget σ.heap (g r) = some (x.ren g)
  inj : ∀ r s x y, hget H r = some x → hget H s = some y → g r = g s → r = s
  refs : ∀ r x, hget H r = some x → refsInL H x.els
theorem Hand.h0 {σ : St} {H : Heap} {g : Nat → Nat} (h : Hand σ H g) : Hand0 σ H g := ⟨h.row, h.inj, h.refs⟩
structure Back (σ : St) (H H' : Heap) (g ρ : Nat → Nat) : Prop where
  old : ∀ r x', hget H' r = some x' → r < 1000 → ∃ x, hget H r = some x ∧ ρ r = g r ∧ x'.k = x.k ∧ (1 ≤ x.k → x'.els.length = x.els.length)
  all : ∀ r x, hget H r = some x → ∃ x', hget H' r = some x'
  new : ∀ r x', hget H' r = some x' → 1000 ≤ r → hget σ.heap (ρ r) = none ∧ 1000 ≤ ρ r
  inj : ∀ r s x y, hget H' r = some x → hget H' s = some y → ρ r = ρ s → r = s
  refs : ∀ r x, hget H' r = some x → refsInL H' x.els ∧ cleanL x.els
def handNm (φ : Nm) (H : Heap) (g : Nat → Nat) (gc : Gh) : Nm := ⟨fun r => if (hget H r).isSome = true then φ (g r) else none, fun b => gc.isSome = true ∧ φ.T b⟩
theorem handNm_f {φ : Nm} {H : Heap} {g : Nat → Nat} {gc : Gh} {r : Nat} {x : Row} (h : hget H r = some x) : (handNm φ H g gc) r = φ (g r) := by
  show (if (hget H r).isSome = true then φ (g r) else none) = _
  rw [h]; rfl
def Base.hand {P : Program} (B : Base P) (w : World) (φ : Nm) (H0 H : Heap) (g : Nat → Nat) (gc : Gh) (hk : B.w0.heap.size ≤ w.heap.size) (hlt : ∀ b, own φ H0 b → b < w.heap.size) : Base P :=
  { w0 := w, X := fun b kk => B.X b kk ∨ (own φ H0 b ∧ ¬ own (handNm φ H g gc) H b), hX := fun b kk h => h.elim (fun h => Nat.lt_of_lt_of_le (B.hX b _ h) hk) (fun h => hlt b h.1), o0 := own (handNm φ H g gc) H, φ0 := (handNm φ H g gc).f, z0 := csz w, ro := none, held := [], hheld := fun _ => rfl,
    J := B.J, stab := B.stab, fr := B.fr, y := B.y, yok := B.yok }
section
variable {P : Program} {G : List (Nat × PD)} {B : Base P} {N : Nat} {σ : St} {a : Act} {w : World} {φ : Nm} {H H' H2 : Heap} {g ρ : Nat → Nat} {gc : Gh}
theorem hand_row (hh : Hand0 σ H g) {b : Nat} (h : rowB (handNm φ H g gc) H b) : rowB φ σ.heap b := by
  obtain ⟨r, x, h1, h2⟩ := h
  rw [handNm_f h1] at h2
  exact ⟨g r, x.ren g, hh.row r x h1, h2⟩
theorem hand_own (hh : Hand0 σ H g) {b : Nat} (h : own (handNm φ H g gc) H b) : own φ σ.heap b := h.elim (fun h => .inl (hand_row hh h)) (fun h => .inr h.2)
abbrev Rep.bc (hr : Rep G B N σ a w φ) (H : Heap) (g : Nat → Nat) (gc : Gh) : Base P := B.hand w φ σ.heap H g gc hr.keeps.size (fun _ => hr.heap.own_lt)
theorem hand_okd (hr : Rep G B N σ a w φ) (hh : Hand0 σ H g) {b kk : Nat} (h : okd w B.X φ σ.heap b kk) : okd w (hr.bc H g gc).X (handNm φ H g gc) H b kk :=
  ⟨h.1, fun hx => hx.elim h.2.1 (fun hx => h.2.2 hx.1), fun ho => h.2.2 (hand_own hh ho)⟩
theorem RepV.hand (hr : Rep G B N σ a w φ) (hh : Hand0 σ H g) {v : Value} {q : PV} (hv : RepV w B.X φ σ.heap v q) : ∀ {p : PV}, q = p.ren g → refsIn H p → RepV w (hr.bc H g gc).X (handNm φ H g gc) H v p := by
  have hd : ∀ {v : Value} {x : PD}, RepD w (okd w B.X φ σ.heap) v x → RepD w (okd w (hr.bc H g gc).X (handNm φ H g gc) H) v x := fun h => h.mono (fun b kk hb => hand_okd hr hh hb) (fun _ _ _ => rfl)
  have hb : ∀ {v : Value} {x : PD}, RepD w (okb w φ σ.heap) v x → RepD w (okb w (handNm φ H g gc) H) v x := fun h => h.mono (fun b kk hb => ⟨hb.1, fun ho => hb.2 (hand_own hh ho)⟩) (fun _ _ _ => rfl)
  have hrow : ∀ {r : Nat} {x : Row}, hget σ.heap (g r) = some x → (hget H r).isSome = true → ∃ x0, hget H r = some x0 ∧ x = x0.ren g := fun {r x} h1 h2 => by
    obtain ⟨x0, h3⟩ := Option.isSome_iff_exists.1 h2
    refine ⟨x0, h3, ?_⟩
    have := hh.row _ _ h3
    rw [h1] at this; simpa using this
  induction hv with
  | any v => intro p hp _; cases p <;> simp only [PV.ren, reduceCtorEq] at hp; exact .any v
  | d h => intro p hp _; cases p <;> simp only [PV.ren, reduceCtorEq, PV.d.injEq] at hp; subst hp; exact .d (hd h)
  | b h => intro p hp _; cases p <;> simp only [PV.ren, reduceCtorEq, PV.b.injEq] at hp; subst hp; exact .b (hb h)
  | mp hx hφ hk =>
    intro p hp hrf
    cases p <;> simp only [PV.ren, reduceCtorEq, PV.mp.injEq] at hp
    subst hp
    simp only [refsIn] at hrf
    obtain ⟨x0, h1, rfl⟩ := hrow hx hrf
    exact RepV.mp (x := x0) h1 ((handNm_f h1).trans hφ) hk
  | ptr hx hφ hk =>
    intro p hp hrf
    cases p <;> simp only [PV.ren, reduceCtorEq, PV.ptr.injEq] at hp
    obtain ⟨rfl, rfl, rfl⟩ := hp
    simp only [refsIn] at hrf
    obtain ⟨x0, h1, rfl⟩ := hrow hx hrf
    exact RepV.ptr (x := x0) h1 ((handNm_f h1).trans hφ) hk
  | dptr h hi => intro p hp _; cases p <;> simp only [PV.ren, reduceCtorEq, PV.dptr.injEq] at hp; obtain ⟨rfl, rfl, rfl, rfl⟩ := hp; exact .dptr (hd h) hi
  | bptr h hi => intro p hp _; cases p <;> simp only [PV.ren, reduceCtorEq, PV.bptr.injEq] at hp; obtain ⟨rfl, rfl, rfl, rfl⟩ := hp; exact .bptr (hb h) hi
  | glob n => intro p hp _; cases p <;> simp only [PV.ren, reduceCtorEq, PV.glob.injEq] at hp; subst hp; exact .glob n
  | val hf => intro p hp _; cases p <;> simp only [PV.ren, reduceCtorEq, PV.val.injEq] at hp; subst hp; exact .val hf
  | slc hx hφ hk hn hc hl hz =>
    intro p hp hrf
    cases p <;> simp only [PV.ren, reduceCtorEq, PV.slc.injEq] at hp
    obtain ⟨rfl, rfl, rfl⟩ := hp
    simp only [refsIn] at hrf
    obtain ⟨x0, h1, rfl⟩ := hrow hx hrf
    simp only [Row.ren, renL_length] at hn hl
    exact RepV.slc (x := x0) h1 ((handNm_f h1).trans hφ) hk hn hc hl hz
  | slc0 hx hφ hk hp0 =>
    intro p hp hrf
    cases p <;> simp only [PV.ren, reduceCtorEq, PV.slc.injEq] at hp
    obtain ⟨rfl, rfl, rfl⟩ := hp
    simp only [refsIn] at hrf
    obtain ⟨x0, h1, rfl⟩ := hrow hx hrf
    exact RepV.slc0 (x := x0) h1 ((handNm_f h1).trans hφ) hk hp0
  | func hs _ ih =>
    intro p hp hrf
    cases p <;> simp only [PV.ren, reduceCtorEq, PV.func.injEq] at hp
    obtain ⟨rfl, rfl⟩ := hp
    simp only [refsIn] at hrf
    rw [renL_length] at hs
    exact .func hs fun i hi => ih i (by rw [renL_length]; exact hi) (renL_get _ _ _ _ _) (refsInL_get hrf i hi)
  | agg hs _ hf ih =>
    intro p hp hrf
    cases p <;> simp only [PV.ren, reduceCtorEq, PV.agg.injEq] at hp
    subst hp
    simp only [refsIn] at hrf
    rw [renL_length] at hs
    exact .agg hs (fun i hi => ih i (by rw [renL_length]; exact hi) (renL_get _ _ _ _ _) (refsInL_get hrf i hi)) (fun i hi => hf i (by rw [renL_length]; exact hi))
  | tuple hs _ ih =>
    intro p hp hrf
    cases p <;> simp only [PV.ren, reduceCtorEq, PV.tuple.injEq] at hp
    subst hp
    simp only [refsIn] at hrf
    rw [renL_length] at hs
    exact .tuple hs fun i hi => ih i (by rw [renL_length]; exact hi) (renL_get _ _ _ _ _) (refsInL_get hrf i hi)
theorem Rep.hand (hr : Rep G B N σ a w φ) (hh : Hand0 σ H g) (hg : gc = none ∨ gc = σ.gh) : Sit G (hr.bc H g gc) w (handNm φ H g gc) H gc := by
  refine ⟨⟨fun r x b hx hb => ?_, fun r x hx hb => ?_, fun r s x y b hx hy hb hb' => ?_, fun b hT => ?_⟩, .refl _ _, fun r x b hx hb => .inl (.inl ⟨r, x, hx, hb⟩), fun _ _ _ _ => rfl, fun _ _ _ _ _ _ => rfl, fun n x hm => ?_, fun b hT => .inl (.inr hT), ?_⟩
  · have hb' := hb
    rw [handNm_f hx] at hb'
    refine (hr.heap.rows _ _ b (hh.row r x hx) hb').turn rfl rfl (by simp [Row.ren, renL_length]) (fun _ _ h => h) (fun kk hX => hX.elim ((hr.heap.rows _ _ b (hh.row r x hx) hb').free kk) (fun h => h.2 (.inl ⟨r, x, hx, hb⟩))) (fun i hi hi' v hv => ?_) (fun z hz => headOk.of_ren hz)
    exact hv.hand hr hh (by simp only [Row.ren]; exact renL_get _ _ _ hi' _) (refsInL_get (hh.refs r x hx) i hi')
  · rw [handNm_f hx] at hb
    have := hr.heap.void _ _ (hh.row r x hx) hb
    have hl := renL_length g x.els
    simp only [Row.ren] at this
    rw [this] at hl
    exact List.eq_nil_of_length_eq_zero hl.symm
  · rw [handNm_f hx] at hb
    rw [handNm_f hy] at hb'
    exact hh.inj r s x y hx hy (hr.heap.inj _ _ _ _ b (hh.row r x hx) (hh.row s y hy) hb hb')
  · obtain ⟨h1, h2, h3⟩ := hr.heap.far b hT.2
    exact ⟨h1, fun kk hX => hX.elim (h2 kk) (fun h => h.2 (.inr hT)), fun h => h3 (hand_row hh h)⟩
  · obtain ⟨c, e, f, v, h1, h2, h3, h4, h5⟩ := hr.glob n x hm
    exact ⟨c, e, f, v, h1, fun ho => h2 (hand_own hh ho), h3.mono (fun b kk hb => hand_okd hr hh hb) (fun _ _ _ => rfl), h4, h5.1, fun hX => hX.elim h5.2 (fun h => h2 h.1)⟩
  · cases gc with
    | none => exact fun b h => by simp [handNm] at h
    | some p =>
      have hs : σ.gh = some p := (hg.resolve_left (by simp)).symm
      have hinv := hr.inv
      rw [hs] at hinv
      obtain ⟨l, all, xs, c⟩ := p
      have hT : (handNm φ H g (some (l, all, xs, c))).T = φ.T := by funext b; simp [handNm]
      rw [hT]
      have hM : ∀ b kk, (hr.bc H g (some (l, all, xs, c))).mine (handNm φ H g (some (l, all, xs, c))) H b kk → B.mine φ σ.heap b kk := fun b kk hb => by
        rcases hb with (hb | ⟨hb, hn⟩) | hb
        · exact .inl hb
        · rcases hb with hb | hb
          · exact .inr hb
          · exact absurd (.inr ⟨rfl, hb⟩) hn
        · exact .inr (hand_row hh hb)
      rcases hinv with hinv | ⟨hf, ha, m, ys, hx, hj⟩
      · exact .inl ⟨hinv.1, hinv.2.1, B.stab _ _ _ _ _ _ hinv.2.2 rfl rfl rfl (Nat.le_refl _) (fun _ _ _ _ => rfl) (fun b kk hb => .inl (hM b kk hb))⟩
      · exact .inr ⟨hf, ha, m, ys, hx, hj.stab (Nat.le_refl _) (fun _ _ _ _ => rfl) (fun b kk hb => .inl (hM b kk hb))⟩
open Classical in
noncomputable def backNm (φ φ' : Nm) (H' : Heap) (ρ : Nat → Nat) (gc : Gh) : Nm :=
  ⟨fun s => if h : ∃ r, (hget H' r).isSome = true ∧ ρ r = s then φ' (Classical.choose h) else φ s, fun b => if gc.isSome = true then φ'.T b else φ.T b⟩
open Classical in
theorem backNm_in {φ' : Nm} (hb : Back σ H H' g ρ) {r : Nat} {x : Row} (h : hget H' r = some x) : (backNm φ φ' H' ρ gc) (ρ r) = φ' r := by
  have hex : ∃ r', (hget H' r').isSome = true ∧ ρ r' = ρ r := ⟨r, by rw [h]; rfl, rfl⟩
  show (if h : ∃ r', (hget H' r').isSome = true ∧ ρ r' = ρ r then φ' (Classical.choose h) else φ (ρ r)) = φ' r
  rw [dif_pos hex]
  obtain ⟨h1, h2⟩ := Classical.choose_spec hex
  obtain ⟨y, hy⟩ := Option.isSome_iff_exists.1 h1
  rw [hb.inj _ _ _ _ hy h h2]
open Classical in
theorem backNm_out {φ' : Nm} {s : Nat} (h : ∀ r x, hget H' r = some x → ρ r ≠ s) : (backNm φ φ' H' ρ gc) s = φ s := by
  show (if h : ∃ r', (hget H' r').isSome = true ∧ ρ r' = s then φ' (Classical.choose h) else φ s) = φ s
  rw [dif_neg]
  rintro ⟨r, h1, h2⟩
  obtain ⟨y, hy⟩ := Option.isSome_iff_exists.1 h1
  exact h r y hy h2
structure Merged (σ : St) (H' : Heap) (ρ : Nat → Nat) (H2 : Heap) : Prop where
  inn : ∀ r x, hget H' r = some x → hget H2 (ρ r) = some (x.ren ρ)
  out : ∀ s, (∀ r x, hget H' r = some x → ρ r ≠ s) → hget H2 s = hget σ.heap s
def hmerge (ρ : Nat → Nat) : Heap → Heap → Heap
  | [], H0 => H0
  | (r, x) :: l, H0 => hput (hmerge ρ l H0) (ρ r) (x.ren ρ)
theorem hmerge_ok : ∀ {l H0 : Heap}, (∀ r s, (hget l r).isSome = true → (hget l s).isSome = true → ρ r = ρ s → r = s) →
    (∀ r x, hget l r = some x → hget (hmerge ρ l H0) (ρ r) = some (x.ren ρ)) ∧ ∀ s, (∀ r x, hget l r = some x → ρ r ≠ s) → hget (hmerge ρ l H0) s = hget H0 s
  | [], H0, _ => ⟨fun r x h => by simp [hget] at h, fun s _ => rfl⟩
  | (r0, x0) :: l, H0, hi => by
    have hsub : ∀ r, (hget l r).isSome = true → (hget ((r0, x0) :: l) r).isSome = true := fun r h => by simp only [hget]; split <;> simp_all
    obtain ⟨h1, h2⟩ := hmerge_ok (l := l) (H0 := H0) (fun r s hr hs => hi r s (hsub r hr) (hsub s hs))
    refine ⟨fun r x h => ?_, fun s h => ?_⟩
    · simp only [hmerge, hget_hput]
      by_cases hr : r0 = r
      · subst hr; simp only [hget, if_true, Option.some.injEq] at h; subst h; simp
      · have h' := h
        simp only [hget, if_neg hr] at h'
        rw [if_neg (fun e => hr (hi r0 r (by simp [hget]) (by rw [h]; rfl) e))]
        exact h1 r x h'
    · simp only [hmerge, hget_hput]
      rw [if_neg (h r0 x0 (by simp [hget]))]
      by_cases hex : ∃ x, hget l r0 = some x
      · refine h2 s fun r x hx => ?_
        by_cases hr : r0 = r
        · subst hr; exact h r0 x0 (by simp [hget])
        · exact h r x (by simp only [hget, if_neg hr]; exact hx)
      · refine h2 s fun r x hx => ?_
        have hr : r0 ≠ r := fun e => hex ⟨x, e ▸ hx⟩
        exact h r x (by simp only [hget, if_neg hr]; exact hx)
theorem Back.merged (hb : Back σ H H' g ρ) : Merged σ H' ρ (hmerge ρ H' σ.heap) := by
  obtain ⟨h1, h2⟩ := hmerge_ok (ρ := ρ) (l := H') (H0 := σ.heap) (fun r s hr hs he => by
    obtain ⟨x, hx⟩ := Option.isSome_iff_exists.1 hr
    obtain ⟨y, hy⟩ := Option.isSome_iff_exists.1 hs
    exact hb.inj r s x y hx hy he)
  exact ⟨h1, h2⟩
end
end Go.Pv

namespace Go.Pv
section
variable {P : Program} {G : List (Nat × PD)} {B : Base P} {N : Nat} {σ : St} {a : Act} {w w' : World} {φ φ' : Nm} {H H' H2 : Heap} {g ρ : Nat → Nat} {gc g' : Gh}
structure Came (hr : Rep G B N σ a w φ) (H H' H2 : Heap) (g ρ : Nat → Nat) (gc g' : Gh) (w' : World) (φ' : Nm) : Prop where
  hh : Hand σ H g
  hg : gc = none ∨ gc = σ.gh
  hb : Back σ H H' g ρ
  hm : Merged σ H' ρ H2
  hs : Sit G (hr.bc H g gc) w' φ' H' g'
variable {hr : Rep G B N σ a w φ} (c : Came hr H H' H2 g ρ gc g' w' φ')
include c
theorem Came.old {b : Nat} (hlt : b < w.heap.size) (h : ¬ own (handNm φ H g gc) H b) : w'.heap[b]? = w.heap[b]? := c.hs.keeps.block b hlt h
theorem Came.out_own {s b : Nat} {y : Row} (hn : ∀ r x, hget H' r = some x → ρ r ≠ s) (hy : hget σ.heap s = some y) (hφ : φ s = some b) : ¬ own (handNm φ H g gc) H b := by
  rintro (⟨r, x, hx, hrb⟩ | hT)
  · rw [handNm_f hx] at hrb
    have e := hr.heap.inj _ _ _ _ b (c.hh.row r x hx) hy hrb hφ
    obtain ⟨x', hx'⟩ := c.hb.all r x hx
    obtain ⟨_, _, h2, _⟩ := c.hb.old r x' hx' (c.hh.pin r x hx)
    exact hn r x' hx' (h2.trans e)
  · exact (hr.heap.far b hT.2).2.2 ⟨s, y, hy, hφ⟩
theorem Came.handed {r : Nat} {x' : Row} (hx' : hget H' r = some x') (hp : r < 1000) : ∃ x, hget H r = some x ∧ ρ r = g r ∧ x'.k = x.k ∧ (1 ≤ x.k → x'.els.length = x.els.length) ∧ φ' r = φ (g r) := by
  obtain ⟨x, h1, h2, h3, h4⟩ := c.hb.old r x' hx' hp
  refine ⟨x, h1, h2, h3, h4, ?_⟩
  have := c.hs.pins r x' hx' (by simp [pinned, hp])
  exact this.trans (handNm_f (φ := φ) (g := g) (gc := gc) h1)
theorem Came.row_of {b : Nat} (h : rowB (backNm φ φ' H' ρ gc) H2 b) : rowB φ' H' b ∨ ∃ s y, (∀ r x, hget H' r = some x → ρ r ≠ s) ∧ hget σ.heap s = some y ∧ φ s = some b := by
  obtain ⟨s, y, h1, h2⟩ := h
  by_cases hex : ∃ r x, hget H' r = some x ∧ ρ r = s
  · obtain ⟨r, x, hx, rfl⟩ := hex
    rw [backNm_in c.hb hx] at h2
    exact .inl ⟨r, x, hx, h2⟩
  · have hn : ∀ r x, hget H' r = some x → ρ r ≠ s := fun r x hx e => hex ⟨r, x, hx, e⟩
    rw [backNm_out hn] at h2
    rw [c.hm.out s hn] at h1
    exact .inr ⟨s, y, hn, h1, h2⟩
theorem Came.own_old {b : Nat} (hlt : b < w.heap.size) (h : own (backNm φ φ' H' ρ gc) H2 b) : own φ σ.heap b := by
  rcases h with h | h
  · rcases c.row_of h with ⟨r, x, hx, hφ⟩ | ⟨s, y, _, hy, hφ⟩
    · rcases c.hs.new r x b hx hφ with h | h
      · exact hand_own c.hh.h0 h
      · exact absurd hlt (Nat.not_lt.2 h)
    · exact .inl ⟨s, y, hy, hφ⟩
  · simp only [backNm] at h
    split at h
    · rcases c.hs.tnew b h with h | h
      · exact hand_own c.hh.h0 h
      · exact absurd hlt (Nat.not_lt.2 h)
    · exact .inr h
theorem Came.own_new {b kk : Nat} (hX : ¬ (hr.bc H g gc).X b kk) (ho : ¬ own φ' H' b) : ¬ own (backNm φ φ' H' ρ gc) H2 b := by
  rintro (h | h)
  · rcases c.row_of h with h | ⟨s, y, hn, hy, hφ⟩
    · exact ho (.inl h)
    · exact hX (.inr ⟨.inl ⟨s, y, hy, hφ⟩, c.out_own hn hy hφ⟩)
  · simp only [backNm] at h
    split at h
    · exact ho (.inr h)
    · rename_i hgc
      refine hX (.inr ⟨.inr h, ?_⟩)
      rintro (h2 | h2)
      · exact (hr.heap.far b h).2.2 (hand_row c.hh.h0 h2)
      · exact hgc h2.1
theorem Came.ext : Ext w B.X φ σ.heap w' (backNm φ φ' H' ρ gc) H2 := by
  have hsz := c.hs.keeps.size
  refine ⟨fun r x hx => ?_, fun b kk h => ⟨Nat.lt_of_lt_of_le h.1 hsz, h.2.1, fun ho => h.2.2 (c.own_old h.1 ho)⟩, fun b kk h => ⟨Nat.lt_of_lt_of_le h.1 hsz, fun ho => h.2 (c.own_old h.1 ho)⟩,
    fun b kk h => c.old h.1 (fun ho => h.2 (hand_own c.hh.h0 ho)), fun r x b hx hφ cs e f hcs => ?_⟩
  · by_cases hex : ∃ r0 x0, hget H' r0 = some x0 ∧ ρ r0 = r
    · obtain ⟨r0, x0', hx0, rfl⟩ := hex
      have hp : r0 < 1000 := by
        rcases Nat.lt_or_ge r0 1000 with h | h
        · exact h
        · have := (c.hb.new r0 x0' hx0 h).1
          rw [hx] at this; cases this
      obtain ⟨x0, h1, h2, h3, h4, h5⟩ := c.handed hx0 hp
      have h6 := c.hh.row r0 x0 h1
      rw [← h2, hx] at h6
      simp only [Option.some.injEq] at h6; subst h6
      refine ⟨x0'.ren ρ, c.hm.inn r0 x0' hx0, h3, fun hk => by simp only [Row.ren, renL_length]; exact h4 hk, ?_⟩
      rw [backNm_in c.hb hx0, h5, h2]
    · have hn : ∀ r0 x0, hget H' r0 = some x0 → ρ r0 ≠ r := fun r0 x0 h e => hex ⟨r0, x0, h, e⟩
      exact ⟨x, (c.hm.out r hn).trans hx, rfl, fun _ => rfl, backNm_out hn⟩
  · have hw' : csz w' b = cs.size := by unfold csz; rw [hcs]
    have hcsz : csz w b = csz w' b → ∃ c0 e0 f0, w.heap[b]? = some (.cells c0 e0 f0) ∧ c0.size = cs.size := fun hcz => by
      obtain ⟨o, h1, h2⟩ := (hr.heap.rows r x b hx hφ).some
      cases o with
      | cells c0 e0 f0 => exact ⟨c0, e0, f0, h1, by rw [← hw', ← hcz]; unfold csz; rw [h1]⟩
      | map es cl =>
        exfalso
        have hk0 : x.k = 0 := Nat.eq_zero_of_not_pos fun hk => by
          obtain ⟨_, _, _, h3, _⟩ := (hr.heap.rows r x b hx hφ).here hk
          rw [h1] at h3; cases h3
        by_cases hex : ∃ r0 x0, hget H' r0 = some x0 ∧ ρ r0 = r
        · obtain ⟨r0, x0', hx0, rfl⟩ := hex
          have hp : r0 < 1000 := by
            rcases Nat.lt_or_ge r0 1000 with h | h
            · exact h
            · have := (c.hb.new r0 x0' hx0 h).1
              rw [hx] at this; cases this
          obtain ⟨x0, h4, h5, h6, _, h7⟩ := c.handed hx0 hp
          have h8 := c.hh.row r0 x0 h4
          rw [← h5, hx] at h8
          simp only [Option.some.injEq] at h8
          have h9 : x0'.k = 0 := by rw [h6, ← hk0, h8]; rfl
          obtain ⟨_, _, h10, _⟩ := (c.hs.heap.rows r0 x0' b hx0 (by rw [h7, ← h5]; exact hφ)).map h9
          rw [hcs] at h10; cases h10
        · have hn : ∀ r0 x0, hget H' r0 = some x0 → ρ r0 ≠ r := fun r0 x0 h e => hex ⟨r0, x0, h, e⟩
          have := c.old (hr.heap.lt hx hφ) (c.out_own hn hx hφ)
          rw [hcs, h1] at this; cases this
      | _ => cases h2
    refine hcsz ?_
    by_cases hex : ∃ r0 x0, hget H' r0 = some x0 ∧ ρ r0 = r
    · obtain ⟨r0, x0', hx0, rfl⟩ := hex
      have hp : r0 < 1000 := by
        rcases Nat.lt_or_ge r0 1000 with h | h
        · exact h
        · have := (c.hb.new r0 x0' hx0 h).1
          rw [hx] at this; cases this
      obtain ⟨x0, h1, h2, h3, h4, h5⟩ := c.handed hx0 hp
      exact (c.hs.psz r0 x0' b hx0 (by simp [pinned, hp]) (by rw [h5, ← h2]; exact hφ)).symm
    · have hn : ∀ r0 x0, hget H' r0 = some x0 → ρ r0 ≠ r := fun r0 x0 h e => hex ⟨r0, x0, h, e⟩
      exact (csz_of (c.old (hr.heap.lt hx hφ) (c.out_own hn hx hφ))).symm
theorem Came.okd {b kk : Nat} (h : okd w' (hr.bc H g gc).X φ' H' b kk) : okd w' B.X (backNm φ φ' H' ρ gc) H2 b kk := ⟨h.1, fun hX => h.2.1 (.inl hX), c.own_new h.2.1 h.2.2⟩
theorem Came.val {v : Value} {p : PV} (hv : RepV w' (hr.bc H g gc).X φ' H' v p) : clean p → refsIn H' p → RepV w' B.X (backNm φ φ' H' ρ gc) H2 v (p.ren ρ) := by
  have hd : ∀ {v : Value} {x : PD}, RepD w' (Pv.okd w' (hr.bc H g gc).X φ' H') v x → RepD w' (Pv.okd w' B.X (backNm φ φ' H' ρ gc) H2) v x := fun h => h.mono (fun b k hb => c.okd hb) (fun _ _ _ => rfl)
  induction hv with
  | any v => intro _ _; simp only [PV.ren]; exact .any v
  | d h => intro _ _; simp only [PV.ren]; exact .d (hd h)
  | b h => intro h0 _; simp [clean] at h0
  | @ptr r i off b x hx hφ hk => intro _ _; simp only [PV.ren]; exact RepV.ptr (x := x.ren ρ) (c.hm.inn _ _ hx) ((backNm_in c.hb hx).trans hφ) hk
  | @mp r b x hx hφ hk => intro _ _; simp only [PV.ren]; exact RepV.mp (x := x.ren ρ) (c.hm.inn _ _ hx) ((backNm_in c.hb hx).trans hφ) hk
  | dptr h hi => intro _ _; simp only [PV.ren]; exact .dptr (hd h) hi
  | bptr h hi => intro h0 _; simp [clean] at h0
  | glob n => intro _ _; simp only [PV.ren]; exact .glob n
  | val hf => intro _ _; simp only [PV.ren]; exact .val hf
  | @slc r lo n cap b x hx hφ hk hn hc hl hz => intro _ _; simp only [PV.ren]; exact RepV.slc (x := x.ren ρ) (c.hm.inn _ _ hx) ((backNm_in c.hb hx).trans hφ) hk (by simpa [Row.ren, renL_length] using hn) hc (by simpa [Row.ren, renL_length] using hl) hz
  | @slc0 r x p hx hφ hk hp => intro _ _; simp only [PV.ren]; exact RepV.slc0 (x := x.ren ρ) (c.hm.inn _ _ hx) ((backNm_in c.hb hx).trans hφ) hk hp
  | func hs _ ih =>
    intro h0 h1
    simp only [clean] at h0; simp only [refsIn] at h1
    simp only [PV.ren]
    refine .func (by rw [renL_length]; exact hs) (fun i hi => ?_)
    rw [renL_length] at hi
    rw [renL_get _ _ i hi]
    exact ih i hi (cleanL_get h0 i hi) (refsInL_get h1 i hi)
  | agg hs _ hf ih =>
    intro h0 h1
    simp only [clean] at h0; simp only [refsIn] at h1
    simp only [PV.ren]
    refine .agg (by rw [renL_length]; exact hs) (fun i hi => ?_) (fun i hi => hf i (by rw [renL_length] at hi; exact hi))
    rw [renL_length] at hi
    rw [renL_get _ _ i hi]
    exact ih i hi (cleanL_get h0 i hi) (refsInL_get h1 i hi)
  | tuple hs _ ih =>
    intro h0 h1
    simp only [clean] at h0; simp only [refsIn] at h1
    simp only [PV.ren]
    refine .tuple (by rw [renL_length]; exact hs) (fun i hi => ?_)
    rw [renL_length] at hi
    rw [renL_get _ _ i hi]
    exact ih i hi (cleanL_get h0 i hi) (refsInL_get h1 i hi)
omit c in
theorem Dfr.wide {m m' : Nat → Prop} {X : Nat → Nat → Prop} {H : Heap} {ds : List Deferred} {ps : List PV} (hm : ∀ D, m D → m' D) (h : Dfr m w X φ H ds ps) : Dfr m' w X φ H ds ps := by
  induction h with
  | nil => exact .nil
  | fn h1 h2 h3 _ ih => exact .fn h1 h2 h3 ih
  | mark h0 h1 h2 h3 _ ih => exact .mark (hm _ h0) h1 h2 h3 ih
def ghBack (σ : St) (gc g' : Gh) : Gh := match gc with | none => σ.gh | some _ => g'
theorem Came.rep : Rep G B N { σ with heap := H2, gh := ghBack σ gc g' } a w' (backNm φ φ' H' ρ gc) := by
  have he := c.ext
  have hsz := c.hs.keeps.size
  have hnewB : ∀ b, own φ σ.heap b → B.o0 b ∨ B.w0.heap.size ≤ b := fun b h => h.elim (fun ⟨r, x, h1, h2⟩ => hr.new r x b h1 h2) (fun h => hr.tnew b h)
  have hlt : ∀ {s y b}, hget σ.heap s = some y → φ s = some b → b < w.heap.size := fun h1 h2 => hr.heap.lt h1 h2
  refine ⟨hr.size, fun t => (hr.env t).ext he, ⟨fun s y b hs hb => ?_, fun s y hs hb => ?_, fun s t y z b hs ht hb hb' => ?_, fun b hT => ?_⟩, ⟨c.hs.keeps.os.trans hr.keeps.os, c.hs.keeps.tape.trans hr.keeps.tape, c.hs.keeps.output.trans hr.keeps.output, Nat.le_trans hr.keeps.size hsz, fun b hb ho => ?_⟩,
    fun s y b hs hb => ?_, fun s y hs hp => ?_, fun s y b hs hp hb => ?_, hr.glob.ext he (fun n x hm => ?_), fun b hT => ?_, ?_, ?_⟩
  -- rows
  · by_cases hex : ∃ r x, hget H' r = some x ∧ ρ r = s
    · obtain ⟨r, x, hx, rfl⟩ := hex
      rw [backNm_in c.hb hx] at hb
      have hs' := c.hm.inn r x hx
      rw [hs] at hs'; simp only [Option.some.injEq] at hs'; subst hs'
      refine (c.hs.heap.rows r x b hx hb).turn rfl rfl (by simp [Row.ren, renL_length]) (fun _ _ h => h) (fun kk hX => (c.hs.heap.rows r x b hx hb).free kk (.inl hX)) (fun i hi' _ v h4 => ?_) fun z hz => by simp only [Row.ren, renL_map]; exact hz.map fun p hp => ren_byte ρ hp
      have := c.val h4 (cleanL_get (c.hb.refs r x hx).2 i hi') (refsInL_get (c.hb.refs r x hx).1 i hi')
      simp only [Row.ren]
      rw [renL_get _ _ i hi']
      exact this
    · have hn : ∀ r x, hget H' r = some x → ρ r ≠ s := fun r x h e => hex ⟨r, x, h, e⟩
      rw [c.hm.out s hn] at hs
      rw [backNm_out hn] at hb
      exact (hr.heap.rows s y b hs hb).ext he (c.old (hlt hs hb) (c.out_own hn hs hb))
  · by_cases hex : ∃ r x, hget H' r = some x ∧ ρ r = s
    · obtain ⟨r, x, hx, rfl⟩ := hex
      rw [backNm_in c.hb hx] at hb
      have hs' := c.hm.inn r x hx
      rw [hs] at hs'; simp only [Option.some.injEq] at hs'; subst hs'
      simp only [Row.ren, c.hs.heap.void r x hx hb, renL]
    · have hn : ∀ r x, hget H' r = some x → ρ r ≠ s := fun r x h e => hex ⟨r, x, h, e⟩
      rw [c.hm.out s hn] at hs
      rw [backNm_out hn] at hb
      exact hr.heap.void s y hs hb
  -- no two rows in one block
  · have key : ∀ {s t : Nat} {y z : Row}, (∃ r x, hget H' r = some x ∧ ρ r = s) → (∀ r x, hget H' r = some x → ρ r ≠ t) → hget H2 t = some z → (backNm φ φ' H' ρ gc) s = some b → (backNm φ φ' H' ρ gc) t = some b → False := by
      rintro s t y z ⟨r, x, hx, rfl⟩ hn ht h1 h2
      rw [backNm_in c.hb hx] at h1
      rw [backNm_out hn] at h2
      rw [c.hm.out t hn] at ht
      rcases c.hs.new r x b hx h1 with h | h
      · exact c.out_own hn ht h2 h
      · exact absurd (hlt ht h2) (Nat.not_lt.2 h)
    by_cases h1 : ∃ r x, hget H' r = some x ∧ ρ r = s <;> by_cases h2 : ∃ r x, hget H' r = some x ∧ ρ r = t
    · obtain ⟨r, x, hx, rfl⟩ := h1
      obtain ⟨r', x', hx', rfl⟩ := h2
      rw [backNm_in c.hb hx] at hb
      rw [backNm_in c.hb hx'] at hb'
      rw [c.hs.heap.inj r r' x x' b hx hx' hb hb']
    · exact (key (y := y) h1 (fun r x h e => h2 ⟨r, x, h, e⟩) ht hb hb').elim
    · exact (key (y := z) h2 (fun r x h e => h1 ⟨r, x, h, e⟩) hs hb' hb).elim
    · have hn1 : ∀ r x, hget H' r = some x → ρ r ≠ s := fun r x h e => h1 ⟨r, x, h, e⟩
      have hn2 : ∀ r x, hget H' r = some x → ρ r ≠ t := fun r x h e => h2 ⟨r, x, h, e⟩
      rw [c.hm.out s hn1] at hs
      rw [c.hm.out t hn2] at ht
      rw [backNm_out hn1] at hb
      rw [backNm_out hn2] at hb'
      exact hr.heap.inj s t y z b hs ht hb hb'
  -- what is somebody else's
  · simp only [backNm] at hT
    split at hT
    · obtain ⟨h1, h2, h3⟩ := c.hs.heap.far b hT
      refine ⟨h1, fun kk hX => h2 kk (.inl hX), fun h => ?_⟩
      rcases c.row_of h with h | ⟨s, y, hn, hy, hφ⟩
      · exact h3 h
      · exact h2 0 (.inr ⟨.inl ⟨s, y, hy, hφ⟩, c.out_own hn hy hφ⟩)
    · rename_i hgc
      obtain ⟨h1, h2, h3⟩ := hr.heap.far b hT
      refine ⟨Nat.lt_of_lt_of_le h1 hsz, h2, fun h => ?_⟩
      rcases c.row_of h with ⟨r, x, hx, hφ⟩ | ⟨s, y, hn, hy, hφ⟩
      · rcases c.hs.new r x b hx hφ with h | h
        · rcases h with h | h
          · exact h3 (hand_row c.hh.h0 h)
          · exact hgc h.1
        · exact absurd h1 (Nat.not_lt.2 h)
      · exact h3 ⟨s, y, hy, hφ⟩
  · refine (c.old (Nat.lt_of_lt_of_le hb hr.keeps.size) (fun h => ?_)).trans (hr.keeps.block b hb ho)
    rcases hnewB b (hand_own c.hh.h0 h) with h | h
    · exact ho h
    · omega
  -- new
  · by_cases hex : ∃ r x, hget H' r = some x ∧ ρ r = s
    · obtain ⟨r, x, hx, rfl⟩ := hex
      rw [backNm_in c.hb hx] at hb
      rcases c.hs.new r x b hx hb with h | h
      · exact hnewB b (hand_own c.hh.h0 h)
      · exact .inr (Nat.le_trans hr.keeps.size h)
    · have hn : ∀ r x, hget H' r = some x → ρ r ≠ s := fun r x h e => hex ⟨r, x, h, e⟩
      rw [c.hm.out s hn] at hs
      rw [backNm_out hn] at hb
      exact hr.new s y b hs hb
  · by_cases hex : ∃ r x, hget H' r = some x ∧ ρ r = s
    · obtain ⟨r, x, hx, rfl⟩ := hex
      rw [backNm_in c.hb hx]
      rcases Nat.lt_or_ge r 1000 with h | h
      · obtain ⟨x0, h1, h2, _, _, h5⟩ := c.handed hx h
        rw [h5, h2]
        exact hr.pins _ _ (c.hh.row r x0 h1) (h2 ▸ hp)
      · have := (c.hb.new r x hx h).2
        simp only [pinned, decide_eq_true_eq] at hp; omega
    · have hn : ∀ r x, hget H' r = some x → ρ r ≠ s := fun r x h e => hex ⟨r, x, h, e⟩
      rw [c.hm.out s hn] at hs
      rw [backNm_out hn]
      exact hr.pins s y hs hp
  · by_cases hex : ∃ r x, hget H' r = some x ∧ ρ r = s
    · obtain ⟨r, x, hx, rfl⟩ := hex
      rw [backNm_in c.hb hx] at hb
      rcases Nat.lt_or_ge r 1000 with h | h
      · obtain ⟨x0, h1, h2, _, _, h5⟩ := c.handed hx h
        exact (c.hs.psz r x b hx (by simp [pinned, h]) hb).trans (hr.psz _ _ b (c.hh.row r x0 h1) (h2 ▸ hp) (by rw [← h5]; exact hb))
      · have := (c.hb.new r x hx h).2
        simp only [pinned, decide_eq_true_eq] at hp; omega
    · have hn : ∀ r x, hget H' r = some x → ρ r ≠ s := fun r x h e => hex ⟨r, x, h, e⟩
      rw [c.hm.out s hn] at hs
      rw [backNm_out hn] at hb
      exact (csz_of (c.old (hlt hs hb) (c.out_own hn hs hb))).trans (hr.psz s y b hs hp hb)
  · obtain ⟨cs, e, f, v, h1, h2, _⟩ := hr.glob n x hm
    exact fun ho => h2 (c.own_old (Array.getElem?_eq_some_iff.1 h1).1 ho)
  · simp only [backNm] at hT
    split at hT
    · rcases c.hs.tnew b hT with h | h
      · exact hnewB b (hand_own c.hh.h0 h)
      · exact .inr (Nat.le_trans hr.keeps.size h)
    · exact hr.tnew b hT
  -- the loop's body
  · cases hgc : gc with
    | none =>
      subst hgc
      have hT : (backNm φ φ' H' ρ none).T = φ.T := by funext b; simp [backNm]
      simp only [ghBack]
      refine J_step (w := w) (φ := φ) (H := σ.heap) hr.inv hT c.hs.keeps.os c.hs.keeps.tape c.hs.keeps.output hsz (fun b hlt hn => c.old hlt fun ho => ?_) (fun b h => ?_)
      · rcases ho with h | h
        · exact hn (hand_row c.hh.h0 h)
        · exact absurd h.1 (by simp)
      · rcases c.row_of h with ⟨r, x, hx, hφ⟩ | ⟨s, y, hn, hy, hφ⟩
        · rcases c.hs.new r x b hx hφ with h | h
          · rcases h with h | h
            · exact .inl (hand_row c.hh.h0 h)
            · exact absurd h.1 (by simp)
          · exact .inr h
        · exact .inl ⟨s, y, hy, hφ⟩
    | some p =>
      subst hgc
      have hT : (backNm φ φ' H' ρ (some p)).T = φ'.T := by funext b; simp [backNm]
      rw [hT]
      simp only [ghBack]
      have hinv := c.hs.inv
      match g', hinv with
      | none, hinv => exact hinv
      | some (l, all, xs, d), hinv =>
        have hM : ∀ b kk, B.mine (backNm φ φ' H' ρ (some p)) H2 b kk → (hr.bc H g (some p)).mine φ' H' b kk := fun b kk hb => by
          rcases hb with hb | hb
          · exact .inl (.inl hb)
          · rcases c.row_of hb with h | ⟨s, y, hn, hy, hφ⟩
            · exact .inr h
            · exact .inl (.inr ⟨.inl ⟨s, y, hy, hφ⟩, c.out_own hn hy hφ⟩)
        rcases hinv with hinv | ⟨hf, ha, m, ys, hx, hj⟩
        · exact .inl ⟨hinv.1, hinv.2.1, B.stab _ _ _ _ _ _ hinv.2.2 rfl rfl rfl (Nat.le_refl _) (fun _ _ _ _ => rfl) (fun b kk hb => .inl (hM b kk hb))⟩
        · exact .inr ⟨hf, ha, m, ys, hx, hj.stab (Nat.le_refl _) (fun _ _ _ _ => rfl) (fun b kk hb => .inl (hM b kk hb))⟩
  · refine (hr.dfr.ext he).wide fun D hD => ⟨?_, hD.2⟩
    simp only [ghBack]
    rcases c.hg with h | h
    · subst h; exact hD.1
    · subst h; rw [hD.1]
end
end Go.Pv

namespace Go.Pv
def apartFrom (g : Nat → Nat) (H : Heap) : List Nat → Prop
  | [] => True
  | r :: l => (∀ x ∈ H, g x.1 ≠ r) ∧ apartFrom g H l
theorem apartFrom_get {g : Nat → Nat} {H : Heap} : ∀ {l : List Nat}, apartFrom g H l → ∀ r ∈ l, ∀ s x, hget H s = some x → g s ≠ r
  | r0 :: l, h, r, hr, s, x, hx => by
    rcases List.mem_cons.1 hr with rfl | hr
    · have : ∃ y, (s, y) ∈ H := by
        clear h
        induction H with
        | nil => simp [hget] at hx
        | cons z H ih =>
          obtain ⟨k, y⟩ := z
          simp only [hget] at hx
          split at hx
          · rename_i e; subst e; exact ⟨y, by simp⟩
          · obtain ⟨y', hy⟩ := ih hx; exact ⟨y', by simp [hy]⟩
      obtain ⟨y, hy⟩ := this
      exact h.1 _ hy
    · exact apartFrom_get h.2 r hr s x hx
def handOk (H0 H : Heap) (g : Nat → Nat) (p : PV) : PV → Prop
  | .any => True
  | .b x => p = .b x ∨ (frz H0 p = some x ∧ apartFrom g H (rowsOf p))
  | .d x => p = .d x
  | .bptr k els i off => p = .bptr k els i off
  | .dptr k els i off => p = .dptr k els i off
  | .glob n => p = .glob n
  | .val v => p = .val v
  | .ptr r i off => p = .ptr (g r) i off ∧ (hget H r).isSome = true
  | .slc r lo n => p = .slc (g r) lo n ∧ (hget H r).isSome = true
  | .mp r => p = .mp (g r) ∧ (hget H r).isSome = true
  | .func fn l => p = (PV.func fn l).ren g ∧ refsInL H l
  | .agg l => p = (PV.agg l).ren g ∧ refsInL H l
  | .tuple l => p = (PV.tuple l).ren g ∧ refsInL H l
def handsOk (H0 H : Heap) (g : Nat → Nat) : List PV → List PV → Prop
  | [], [] => True
  | p :: l, q :: m => handOk H0 H g p q ∧ handsOk H0 H g l m
  | _, _ => False
theorem handsOk_get {H0 H : Heap} {g : Nat → Nat} : ∀ {l m : List PV}, handsOk H0 H g l m → l.length = m.length ∧ ∀ i (hi : i < l.length) (hi' : i < m.length), handOk H0 H g l[i] m[i]
  | [], [], _ => ⟨rfl, fun i hi => by simp at hi⟩
  | p :: l, q :: m, h => by
    obtain ⟨h1, h2⟩ := handsOk_get h.2
    refine ⟨by simp [h1], fun i hi hi' => ?_⟩
    cases i with
    | zero => exact h.1
    | succ i => simpa using h2 i (by simpa using hi) (by simpa using hi')
  | [], _ :: _, h => h.elim
  | _ :: _, [], h => h.elim
def calleeV : PV → Option (FuncId × List PV)
  | .d (.fn (.func f)) => some (f, [])
  | .func (.func f) l => some (f, l)
  | _ => none
section
variable {P : Program} {G : List (Nat × PD)} {ro : Option Nat} {B : Base P} {N : Nat} {σ τ : St} {a : Act} {w w' : World} {φ φ' : Nm} {H H' H2 : Heap} {g ρ : Nat → Nat} {gc g' : Gh} {o : Oper} {K : St → Prop}
theorem calleeV_ok {X : Nat → Nat → Prop} {v : Value} {p : PV} {f : FuncId} {caps : List PV} (h : calleeV p = some (f, caps)) (hv : RepV w X φ H v p) :
    ∃ vs : Array Value, v = .func (.func f) #[] vs ∧ vs.size = caps.length ∧ ∀ i (hi : i < caps.length), RepV w X φ H (vs.getD i undef) caps[i] := by
  unfold calleeV at h
  split at h <;> simp only [Option.some.injEq, Prod.mk.injEq, reduceCtorEq] at h
  · obtain ⟨rfl, rfl⟩ := h
    have := repV_d hv
    cases this
    exact ⟨#[], rfl, rfl, fun i hi => by simp at hi⟩
  · obtain ⟨rfl, rfl⟩ := h
    cases hv with
    | func hs h => exact ⟨_, rfl, hs, h⟩
theorem frz_in {X : Nat → Nat → Prop} {H : Heap} {ok : Nat → Nat → Prop} (hh : HeapOk w X φ H) (hok : ∀ b kk, okd w X φ H b kk → ok b kk) {v : Value} {p : PV} (hv : RepV w X φ H v p) :
    (∀ r ∈ rowsOf p, ∀ x b kk, hget H r = some x → φ r = some b → ok b kk) → ∀ {x : PD}, frz H p = some x → RepD w ok v x := by
  induction hv with
  | d h => intro _ x hx; simp only [frz, Option.some.injEq] at hx; subst hx; exact h.mono hok (fun _ _ _ => rfl)
  | @slc r lo n cap b x0 h1 h2 h7 h3 h4 h5 h6 =>
    intro hb x hx
    simp only [frz, h1, Option.map_eq_some_iff] at hx
    obtain ⟨l, hl, rfl⟩ := hx
    exact repD_of_row hh h1 hl (.slc h1 h2 h7 h3 h4 h5 h6) hok (fun b kk hb' => hb r (by simp [rowsOf]) x0 b kk h1 hb')
  | @slc0 r x0 p h1 h2 h7 h3 =>
    intro hb x hx
    simp only [frz, h1, Option.map_eq_some_iff] at hx
    obtain ⟨l, hl, rfl⟩ := hx
    exact repD_of_row hh h1 hl (.slc0 h1 h2 h7 h3) hok (fun b kk hb' => hb r (by simp [rowsOf]) x0 b kk h1 hb')
  | @agg vs ps hs _ hf ih =>
    intro hb x hx
    simp only [frz, Option.map_eq_some_iff] at hx
    obtain ⟨l, hl, rfl⟩ := hx
    obtain ⟨h1, h2⟩ := frzL_get hl
    simp only [rowsOf] at hb
    exact .agg (by rw [hs, h1]) (fun i hi => ih i (h1 ▸ hi) (fun r hr => hb r (rowsOfL_mem (h1 ▸ hi) hr)) (h2 i (h1 ▸ hi) hi)) (fun i hi => hf i (h1 ▸ hi))
  | _ => intro _ x hx; simp [frz] at hx
theorem handOk_ok (hr : Rep G B N σ a w φ) (hh : Hand0 σ H g) {v : Value} {p q : PV} (hv : RepV w B.X φ σ.heap v p) (h : handOk σ.heap H g p q) : RepV w (hr.bc H g gc).X (handNm φ H g gc) H v q := by
  cases q with
  | any => exact .any v
  | b x =>
    rcases h with rfl | ⟨h1, h2⟩
    · exact hv.hand hr hh (by simp [PV.ren]) (by simp [refsIn])
    · refine .b (frz_in hr.heap (fun b kk hb => ⟨hb.1, fun ho => hb.2.2 (hand_own hh ho)⟩) hv (fun r hr' x b kk hx hb => ⟨hr.heap.lt hx hb, fun ho => ?_⟩) h1)
      rcases ho with ⟨s, y, hy, hφ⟩ | hT
      · rw [handNm_f hy] at hφ
        have e := hr.heap.inj _ _ _ _ b (hh.row s y hy) hx hφ hb
        exact apartFrom_get h2 r hr' s y hy e
      · exact (hr.heap.far b hT.2).2.2 ⟨r, x, hx, hb⟩
  | d x => have : p = .d x := h; subst this; exact hv.hand hr hh (by simp [PV.ren]) (by simp [refsIn])
  | bptr k els i off => have : p = .bptr k els i off := h; subst this; exact hv.hand hr hh (by simp [PV.ren]) (by simp [refsIn])
  | dptr k els i off => have : p = .dptr k els i off := h; subst this; exact hv.hand hr hh (by simp [PV.ren]) (by simp [refsIn])
  | glob n => have : p = .glob n := h; subst this; exact hv.hand hr hh (by simp [PV.ren]) (by simp [refsIn])
  | val v => have : p = .val v := h; subst this; exact hv.hand hr hh (by simp [PV.ren]) (by simp [refsIn])
  | ptr r i off => exact hv.hand hr hh (by rw [h.1]; simp [PV.ren]) (by simpa [refsIn] using h.2)
  | slc r lo n => exact hv.hand hr hh (by rw [h.1]; simp [PV.ren]) (by simpa [refsIn] using h.2)
  | mp r => exact hv.hand hr hh (by rw [h.1]; simp [PV.ren]) (by simpa [refsIn] using h.2)
  | func fn l => exact hv.hand hr hh h.1 (by simpa [refsIn] using h.2)
  | agg l => exact hv.hand hr hh h.1 (by simpa [refsIn] using h.2)
  | tuple l => exact hv.hand hr hh h.1 (by simpa [refsIn] using h.2)
theorem args_caps (hr : Rep G B N σ a w φ) {ops : List Operand} {vs : Array Value} {caps : List PV} (h1 : vs.size = caps.length) (h2 : ∀ i (hi : i < caps.length), RepV w B.X φ σ.heap (vs.getD i undef) caps[i]) :
    (ops.map a.eval ++ vs.toList).length = (evalL σ ops ++ caps).length ∧ ∀ i (hi : i < (evalL σ ops ++ caps).length), RepV w B.X φ σ.heap ((ops.map a.eval ++ vs.toList).getD i undef) (evalL σ ops ++ caps)[i] := by
  obtain ⟨h3, h4⟩ := evalL_ok hr ops
  refine ⟨by simp [h3, h1], fun i hi => ?_⟩
  by_cases hin : i < (evalL σ ops).length
  · rw [List.getElem_append_left hin]
    have := h4 i hin
    have e : (ops.map a.eval ++ vs.toList).getD i undef = (ops.map a.eval).getD i undef := by
      simp only [List.getD, List.getElem?_append, h3, hin, if_true]
    rw [e]; exact this
  · have hc : i - (evalL σ ops).length < caps.length := by simp at hi; omega
    rw [List.getElem_append_right (by omega)]
    have e : (ops.map a.eval ++ vs.toList).getD i undef = vs.getD (i - (evalL σ ops).length) undef := by
      simp only [List.getD, List.getElem?_append, h3, hin, if_false, Array.getD_eq_getD_getElem?]
      simp
    rw [e]; exact h2 _ hc
theorem OpT.callG {c : Call} {f : FuncId} {xo : Operand} {caps args : List PV} {Post : PV → Heap → Gh → Prop} (ho : o.op = .call c) (hc : c.callee = .value xo) (hx : calleeV (σ.eval xo) = some (f, caps)) (hcal : callable P f = true)
    (hf : FnG P G f args H gc Post) (hh : Hand σ H g) (hg : gc = none ∨ gc = σ.gh) (ha : handsOk σ.heap H g (evalL σ c.args.toList ++ caps) args) (hd : dstOk N o.dst)
    (hK : ∀ p H' g', Post p H' g' → ∃ ρ, Back σ H H' g ρ ∧ clean p ∧ refsIn H' p ∧ K (({ σ with heap := hmerge ρ H' σ.heap, gh := ghBack σ gc g' } : St).put o.dst (p.ren ρ))) : OpT P G ro N o σ K := by
  intro B hro a w φ hr next Q hn
  obtain ⟨vs, hv1, hv2, hv3⟩ := calleeV_ok hx (hr.eval xo)
  obtain ⟨h1, h2⟩ := handsOk_get ha
  obtain ⟨h3, h4⟩ := args_caps hr (ops := c.args.toList) hv2 hv3
  have hcall := hf (hr.bc H g gc) (handNm φ H g gc) (c.args.toList.map a.eval ++ vs.toList) rfl (h3.trans h1) (fun i hi => handOk_ok hr hh.h0 (h4 i (h1 ▸ hi)) (h2 i (h1 ▸ hi) hi)) (hr.hand hh.h0 hg)
  have hrun : (o.semAt ro a.eval).run P w = .ok (.enter f (c.args.toList.map a.eval ++ vs.toList).toArray) w := by
    rw [Oper.semAt_eq _ _ _ (fun c hc => by rw [ho] at hc; cases hc)]
    have e1 : (c.args.toList.map a.eval ++ vs.toList).toArray = c.args.map a.eval ++ vs := by
      apply Array.toList_inj.1; simp
    have e2 : (#[] ++ c.args.map a.eval ++ vs : Array Value) = c.args.map a.eval ++ vs := by simp
    simp only [execOp, ho, resolve, hc, hv1, Deferred.ofValue, Sem.run_bind, Sem.run_pure, Result.andThen_ok, invoke, e1, e2]
    exact run_callFunc hcal _ w
  refine ⟨fun _ _ => trivial, ?_⟩
  show o.uponIn (Fw ro) 0 P a next Q ((o.semAt ro a.eval).run P w)
  rw [hrun]
  refine ⟨fun h => (by cases h), ?_⟩
  refine CallsIn.mono (R := fun e w' => ∃ v p H' g' φ', e = .returned v ∧ Post p H' g' ∧ RepV w' (hr.bc H g gc).X φ' H' v p ∧ Sit G (hr.bc H g gc) w' φ' H' g') hcall ?_
  rintro e w' ⟨v, p, H', g', φ', rfl, hP, h5, h6⟩
  obtain ⟨ρ, hb, hcl, href, hKp⟩ := hK p H' g' hP
  have cm : Came hr H H' (hmerge ρ H' σ.heap) g ρ gc g' w' φ' := ⟨hh, hg, hb, hb.merged, h6⟩
  exact hn _ _ _ _ hKp (cm.rep.put hd (cm.val h5 hcl href))
theorem Rep.yielded {l : Nat} {all xs ys : List PD} {d e : Bool} {T' : Nat → Prop} (hr : Rep G B N σ a w φ) (hne : all ≠ []) (hg : σ.gh = some (l, all, xs, d)) (hJ : B.J (ys, e) (B.mine φ σ.heap) T' w') (hT : ∀ c, T' c → φ.T c ∨ w.heap.size ≤ c) (hT2 : ∀ c, T' c → c < w'.heap.size)
    (hos : w'.os = w.os) (htape : w'.tape = w.tape) (hout : w'.output = w.output) (hsz : w.heap.size ≤ w'.heap.size) (hk : ∀ c, c < w.heap.size → ¬ φ.T c → w'.heap[c]? = w.heap[c]?) :
    Rep G B N { σ with gh := some (l, all, ys, e) } a w' { φ with T := T' } := by
  have hrow : ∀ b, rowB ({ φ with T := T' } : Nm) σ.heap b ↔ rowB φ σ.heap b := fun b => Iff.rfl
  have hlt : ∀ b, rowB φ σ.heap b → b < w.heap.size := fun b ⟨r, x, h1, h2⟩ => hr.heap.lt h1 h2
  have hown : ∀ b, b < w.heap.size → own ({ φ with T := T' } : Nm) σ.heap b → own φ σ.heap b := fun b hb h => h.elim .inl (fun h => (hT b h).elim .inr (fun h => by omega))
  have hrb : ∀ r x b, hget σ.heap r = some x → φ r = some b → w'.heap[b]? = w.heap[b]? := fun r x b h1 h2 => hk b (hr.heap.lt h1 h2) (fun hT => (hr.heap.far b hT).2.2 ⟨r, x, h1, h2⟩)
  have hext : Ext w B.X φ σ.heap w' { φ with T := T' } σ.heap := ⟨fun r x h => ⟨x, h, rfl, fun _ => rfl, rfl⟩, fun b kk h => ⟨Nat.lt_of_lt_of_le h.1 hsz, h.2.1, fun ho => h.2.2 (hown b h.1 ho)⟩, fun b kk h => ⟨Nat.lt_of_lt_of_le h.1 hsz, fun ho => h.2 (hown b h.1 ho)⟩,
    fun b kk h => hk b h.1 (fun hT => h.2 (.inr hT)), fun r x b h1 h2 c e f hh => ⟨c, e, f, (hrb r x b h1 h2) ▸ hh, rfl⟩⟩
  have hinv := hr.inv
  rw [hg] at hinv
  refine ⟨hr.size, fun t => (hr.env t).ext hext, ⟨fun r x b h1 h2 => (hr.heap.rows r x b h1 h2).ext hext (hrb r x b h1 h2), hr.heap.void, hr.heap.inj, fun b hb => ⟨hT2 b hb, fun kk hX => ?_, fun h => ?_⟩⟩,
    ⟨hos.trans hr.keeps.os, htape.trans hr.keeps.tape, hout.trans hr.keeps.output, Nat.le_trans hr.keeps.size hsz, fun b hb ho => ?_⟩, hr.new, hr.pins, fun r x b h1 h2 h3 => (csz_of (hrb r x b h1 h3)).trans (hr.psz r x b h1 h2 h3), hr.glob.ext hext (fun n x hm => ?_), fun b hb => ?_, .inl ⟨(hinv.resolve_right (fun h => hne h.2.1)).1, fun h => absurd h hne, hJ⟩, ?_⟩
  · rcases hT b hb with h | h
    · exact (hr.heap.far b h).2.1 kk hX
    · exact absurd (B.hX b _ hX) (by have := hr.keeps.size; omega)
  · rcases hT b hb with h2 | h2
    · exact (hr.heap.far b h2).2.2 h
    · have := hlt b h; omega
  · refine (hk b (Nat.lt_of_lt_of_le hb hr.keeps.size) (fun hT => ?_)).trans (hr.keeps.block b hb ho)
    rcases hr.tnew b hT with h | h
    · exact ho h
    · omega
  · obtain ⟨c, e, f, v, h1, h2, _⟩ := hr.glob n x hm
    exact fun ho => h2 (hown n (Array.getElem?_eq_some_iff.1 h1).1 ho)
  · rcases hT b hb with h | h
    · exact hr.tnew b h
    · exact .inr (Nat.le_trans hr.keeps.size h)
  · exact (hr.dfr.ext hext).wide fun D hD => absurd hD.1 (by rw [hg]; simp)
theorem OpT.yield {c : Call} {xo ao : Operand} {l : Nat} {all xs : List PD} {x : PD} (ho : o.op = .call c) (hc : c.callee = .value xo) (hx : σ.eval xo = .d (.fn (.yield l))) (hargs : c.args = #[ao]) (ha : σ.eval ao = .d x) (hg : σ.gh = some (l, all, xs, true)) (hall : (xs ++ [x]) <+: all) (hd : dstOk N o.dst)
    (hK : ∀ b, K (({ σ with gh := some (l, all, xs ++ [x], b) } : St).put o.dst (.d (.bool b)))) : OpT P G ro N o σ K := by
  intro B hro a w φ hr next Q hn
  have hinv := hr.inv
  rw [hg] at hinv
  have hne : all ≠ [] := fun e => by subst e; simp at hall
  obtain ⟨hy, _, hJ⟩ := hinv.resolve_right (fun h => hne h.2.1)
  have hxv := hr.eval xo
  rw [hx] at hxv
  have hxv : a.eval xo = .func (.yield l) #[] #[] := by
    have h0 := repV_d hxv
    generalize a.eval xo = v at h0 ⊢
    cases h0; rfl
  have hav := hr.eval ao
  rw [ha] at hav
  have hav := repV_d hav
  obtain ⟨f, tmps, assign, body, hinvk, hround⟩ := B.yok l all hy xs (B.mine φ σ.heap) φ.T w (a.eval ao) x hall hJ (fun b kk hb => hb.elim (fun h => Nat.lt_of_lt_of_le (B.hX b _ h) hr.keeps.size) (fun ⟨r, x, h1, h2⟩ => hr.heap.lt h1 h2))
    (fun b hb => ⟨(hr.heap.far b hb).1, fun kk hm => hm.elim ((hr.heap.far b hb).2.1 kk) (hr.heap.far b hb).2.2⟩)
    (hav.mono (fun b kk hb => ⟨hb.1, fun hm => hm.elim hb.2.1 (fun h => hb.2.2 (.inl h)), fun h => hb.2.2 (.inr h)⟩) (fun _ _ _ => rfl))
  have hrun : (o.semAt ro a.eval).run P w = .ok (.round l f tmps assign body) w := by
    rw [Oper.semAt_eq _ _ _ (fun c hc => by rw [ho] at hc; cases hc)]
    have e2 : (#[] ++ #[a.eval ao] : Array Value) = #[a.eval ao] := by simp
    simp only [execOp, ho, resolve, hc, hxv, Deferred.ofValue, Sem.run_bind, Sem.run_pure, Result.andThen_ok, hargs, List.map_toArray, List.map_cons, List.map_nil, e2]
    exact hinvk
  refine ⟨fun _ _ => trivial, ?_⟩
  show o.uponIn (Fw ro) 0 P a next Q ((o.semAt ro a.eval).run P w)
  rw [hrun]
  refine ⟨fun h => (by cases h), ?_⟩
  refine RoundIn.mono (R := fun e w' => ∃ b T', e = .returned (.bool b) ∧ B.J (xs ++ [x], b) (B.mine φ σ.heap) T' w' ∧ (∀ c, T' c → φ.T c ∨ w.heap.size ≤ c) ∧ (∀ c, T' c → c < w'.heap.size) ∧
        w'.os = w.os ∧ w'.tape = w.tape ∧ w'.output = w.output ∧ w.heap.size ≤ w'.heap.size ∧ ∀ c, c < w.heap.size → ¬ φ.T c → w'.heap[c]? = w.heap[c]?) hround ?_
  rintro e w' ⟨b, T', rfl, h1, h2, h3, h4, h5, h6, h7, h8⟩
  exact hn _ _ _ _ (hK b) ((hr.yielded hne hg h1 h2 h3 h4 h5 h6 h7 h8).put hd (.d (.bool b)))
end
end Go.Pv

namespace Go.Pv
def FnD (P : Program) (G : List (Nat × PD)) (f : FuncId) (args : List PV) (H : Heap) (g : Gh) (Post : PV → Heap → Gh → Prop) : Prop :=
  ∀ (B : Base P) (φ : Nm) (vs : List Value), B.ro = none → vs.length = args.length → (∀ i (hi : i < args.length), RepV B.w0 B.X φ H (vs.getD i undef) args[i]) → Sit G B B.w0 φ H g →
    CallsDIn (Fw none) 0 P f vs.toArray .returning B.w0 fun e u' w' => u' = .returning ∧ ∃ v p H' g' φ', e = .returned v ∧ Post p H' g' ∧ RepV w' B.X φ' H' v p ∧ Sit G B w' φ' H' g'
section
variable {P : Program} {G : List (Nat × PD)} {ro : Option Nat} {B : Base P} {N : Nat} {σ τ : St} {a : Act} {w w' : World} {φ φ' : Nm} {H H' H2 : Heap} {g ρ : Nat → Nat} {gc g' : Gh} {o : Oper} {K : St → Prop}
theorem Dfr.none_left {m : Nat → Prop} {X : Nat → Nat → Prop} {H : Heap} {ds : List Deferred} (hm : ∀ D, ¬ m D) (h : Dfr m w X φ H ds []) : ds = [] := by
  cases h with
  | nil => rfl
  | mark h0 => exact absurd h0 (hm _)
theorem Dfr.one_left {m : Nat → Prop} {X : Nat → Nat → Prop} {H : Heap} {ds : List Deferred} {p : PV} (hm : ∀ D, ¬ m D) (h : Dfr m w X φ H ds [p]) : ∃ d fn caps, ds = [d] ∧ d.target = .fn fn caps ∧ d.args = #[] ∧ RepV w X φ H (.func fn #[] caps) p := by
  cases h with
  | fn h1 h2 h3 h => exact ⟨_, _, _, by rw [h.none_left hm], h1, h2, h3⟩
  | mark h0 => exact absurd h0 (hm _)
def FinD (P : Program) (G : List (Nat × PD)) (fn : Func) (R : PV → Heap → Gh → Prop) : Post
  | .normal, σ | .ret, σ => ∃ p, resV P G fn.results.toList σ = some p ∧ σ.dfr = [] ∧ σ.gh.isSome = true ∧ R p σ.heap σ.gh
  | _, _ => False
theorem FnD.intro {f : FuncId} {fn : Func} {c : Code} {args : List PV} {H : Heap} {g : Gh} {R : PV → Heap → Gh → Prop} (hf : P.funcs[f]? = some fn) (hb : fn.body = some c) (hN : args.length ≤ fn.ntmps)
    (h : AWp P G none fn.ntmps c ⟨argEnv 0 args, H, [], g⟩ (FinD P G fn R)) : FnD P G f args H g R := by
  intro B φ vs h0 h1 h2 h3
  refine callsDIn_of_wp (R := fun e w' => ∃ v p H' g' φ', e = .returned v ∧ R p H' g' ∧ RepV w' B.X φ' H' v p ∧ Sit G B w' φ' H' g') hf hb trivial ?_ rfl
  refine h B h0 _ _ φ (rep_enter hN h0 h1 h2 h3) _ fun e σ' a' w' φ' hF hr => ?_
  have fin : (∃ p, resV P G fn.results.toList σ' = some p ∧ σ'.dfr = [] ∧ σ'.gh.isSome = true ∧ R p σ'.heap σ'.gh) → a'.defers = [] ∧ ∃ v, (results fn a'.tmps).run P w' = .ok v w' ∧ ∃ v' p H' g' φ', Ending.returned v = .returned v' ∧ R p H' g' ∧ RepV w' B.X φ' H' v' p ∧ Sit G B w' φ' H' g' := by
    rintro ⟨p, h4, h5, h6, h7⟩
    obtain ⟨v, h8, h9⟩ := resV_ok (P := P) hr h4
    have hd := hr.dfr
    rw [h5, B.hheld h0, List.append_nil] at hd
    exact ⟨hd.none_left (fun D hD => by rw [hD.1] at h6; simp at h6), v, h8, v, p, _, _, φ', rfl, h7, h9, hr.sit⟩
  cases e with
  | normal => exact fin hF
  | ret => exact fin hF
  | _ => exact hF.elim
def envFrz (H H' : Heap) (e : List (Nat × PV)) : List (Nat × PV) → Prop
  | [] => True
  | (t, v) :: l => ((eget e t = v ∧ refsIn H' v) ∨ (frzT H (eget e t) = some v ∧ ∀ r ∈ rowsOf (eget e t), hget H' r = none)) ∧ envFrz H H' e l
theorem envFrz_get {H H' : Heap} {e : List (Nat × PV)} : ∀ {l : List (Nat × PV)}, envFrz H H' e l → ∀ t, eget l t = .any ∨ (eget e t = eget l t ∧ refsIn H' (eget l t)) ∨ (frzT H (eget e t) = some (eget l t) ∧ ∀ r ∈ rowsOf (eget e t), hget H' r = none)
  | [], _, _ => .inl rfl
  | (s, v) :: l, h, t => by
    simp only [eget]
    split
    · rename_i hs; subst hs; exact .inr h.1
    · exact envFrz_get h.2 t
theorem frzT_in {X : Nat → Nat → Prop} (hh : HeapOk w X φ H) (hle : ∀ r x, hget H' r = some x → hget H r = some x) {v : Value} {p : PV} (hv : RepV w X φ H v p) : (∀ r ∈ rowsOf p, hget H' r = none) → ∀ {q : PV}, frzT H p = some q → RepV w X φ H' v q := by
  have hown : ∀ b, own φ H' b → own φ H b := fun b h => h.imp (fun ⟨r, x, h1, h2⟩ => ⟨r, x, hle r x h1, h2⟩) id
  have hok : ∀ b kk, okd w X φ H b kk → okd w X φ H' b kk := fun b kk h => ⟨h.1, h.2.1, fun ho => h.2.2 (hown b ho)⟩
  have hrow : ∀ r, hget H' r = none → ∀ x b kk, hget H r = some x → φ r = some b → okd w X φ H' b kk := fun r hn x b kk hx hb => ⟨hh.lt hx hb, (hh.rows r x b hx hb).free kk, fun ho => by
    rcases ho with ⟨s, y, hy, hs⟩ | hT
    · have e := hh.inj s r y x b (hle s y hy) hx hs hb
      subst e; rw [hn] at hy; cases hy
    · exact (hh.far b hT).2.2 ⟨r, x, hx, hb⟩⟩
  induction hv with
  | any v => intro _ q h; simp only [frzT, Option.some.injEq] at h; subst h; exact .any v
  | d hd => intro _ q h; simp only [frzT, Option.some.injEq] at h; subst h; exact .d (hd.mono hok (fun _ _ _ => rfl))
  | b hd => intro _ q h; simp [frzT] at h
  | mp _ _ _ => intro _ q h; simp [frzT] at h
  | @ptr r i off b x hx hφ hk1 =>
    intro hn q h
    simp only [frzT, hx] at h
    split at h <;> try (simp at h; done)
    rename_i l hl
    split at h <;> simp only [Option.some.injEq, reduceCtorEq] at h
    rename_i hi; subst h
    obtain ⟨c, C, _, h1, h2, h3, _⟩ := (hh.rows r x b hx hφ).here hk1
    have hlen : x.els.length = l.length := by rw [allD_some _ _ hl]; simp
    have hsl : RepV w X φ H (.slice (some ⟨b, 0 * x.k, none⟩) x.els.length C) (.slc r 0 x.els.length) := .slc hx hφ hk1 (by omega) h2.2.1 (by omega) (fun c' e f hh' => by
      rw [h1] at hh'; simp only [Option.some.injEq, Obj.cells.injEq] at hh'; rw [← hh'.1, Nat.zero_add]; exact h2.1)
    have hd := repD_of_row hh hx hl hsl hok (fun b' kk hb' => hrow r (hn r (by simp [rowsOf])) x b' kk hx hb')
    rw [hlen, List.drop_zero, List.take_length] at hd
    have := RepV.dptr (off := off) (φ := φ) (H := H') hd hi
    simpa using this
  | dptr hd hi => intro _ q h; simp only [frzT, Option.some.injEq] at h; subst h; exact .dptr (hd.mono hok (fun _ _ _ => rfl)) hi
  | bptr hd hi => intro _ q h; simp [frzT] at h
  | glob g => intro _ q h; simp only [frzT, Option.some.injEq] at h; subst h; exact .glob g
  | val hf => intro _ q h; simp only [frzT, Option.some.injEq] at h; subst h; exact .val hf
  | slc h1 h2 h7 h3 h4 h5 h6 =>
    intro hn q h
    simp only [frzT, Option.map_eq_some_iff] at h
    obtain ⟨x, hx, rfl⟩ := h
    exact .d (frz_in hh hok (.slc h1 h2 h7 h3 h4 h5 h6) (fun r hr x b => hrow r (hn r hr) x b) hx)
  | slc0 h1 h2 h7 h3 =>
    intro hn q h
    simp only [frzT, Option.map_eq_some_iff] at h
    obtain ⟨x, hx, rfl⟩ := h
    exact .d (frz_in hh hok (.slc0 h1 h2 h7 h3) (fun r hr x b => hrow r (hn r hr) x b) hx)
  | func hs _ ih =>
    intro hn q h
    simp only [frzT, Option.map_eq_some_iff] at h
    obtain ⟨m, hm, rfl⟩ := h
    obtain ⟨h1, h2⟩ := frzTL_get hm
    simp only [rowsOf] at hn
    exact .func (by rw [hs, h1]) (fun i hi => ih i (h1 ▸ hi) (fun r hr => hn r (rowsOfL_mem (h1 ▸ hi) hr)) (h2 i (h1 ▸ hi) hi))
  | agg hs h' hf ih =>
    intro hn q h
    simp only [frzT, Option.map_eq_some_iff] at h
    obtain ⟨x, hx, rfl⟩ := h
    exact .d (frz_in hh hok (.agg hs h' hf) (fun r hr x b => hrow r (hn r hr) x b) hx)
  | tuple hs _ ih =>
    intro hn q h
    simp only [frzT, Option.map_eq_some_iff] at h
    obtain ⟨m, hm, rfl⟩ := h
    obtain ⟨h1, h2⟩ := frzTL_get hm
    simp only [rowsOf] at hn
    exact .tuple (by rw [hs, h1]) (fun i hi => ih i (h1 ▸ hi) (fun r hr => hn r (rowsOfL_mem (h1 ▸ hi) hr)) (h2 i (h1 ▸ hi) hi))
theorem Sub.frz (h2 : heapLe τ.heap σ.heap) (h1 : envFrz σ.heap τ.heap σ.env τ.env) (h4 : heapRefs τ.heap τ.heap) (h5 : σ.dfr = τ.dfr ∧ refsInL τ.heap τ.dfr ∧ σ.gh = τ.gh) : Sub G N σ τ := by
  intro P B a w φ hr
  refine ⟨φ, Rep.of_sit (h5.2.2 ▸ hr.sit.less (heapLe_get h2) (heapRefs_get h4)) hr.size (fun t => ?_) (h5.2.2 ▸ ((h5.1 ▸ hr.dfr).less (heapLe_get h2) h5.2.1))⟩
  rcases envFrz_get h1 t with h | ⟨h, h'⟩ | ⟨h, h'⟩
  · rw [h]; exact .any _
  · have := hr.env t
    rw [h] at this
    exact this.less (heapLe_get h2) h'
  · exact frzT_in hr.heap (heapLe_get h2) (hr.env t) h' h
end
end Go.Pv

namespace Go.Pv
def cleanEnv : List (Nat × PV) → Prop
  | [] => True
  | (_, v) :: l => clean v ∧ cleanEnv l
def cleanHeap : Heap → Prop
  | [] => True
  | (_, x) :: l => cleanL x.els ∧ cleanHeap l
theorem cleanEnv_get : ∀ {l : List (Nat × PV)}, cleanEnv l → ∀ t, clean (eget l t)
  | [], _, _ => by simp [eget, clean]
  | (s, v) :: l, h, t => by
    simp only [eget]
    split
    · exact h.1
    · exact cleanEnv_get h.2 t
theorem cleanHeap_get : ∀ {l : Heap}, cleanHeap l → ∀ r x, hget l r = some x → cleanL x.els
  | (s, y) :: l, h, r, x, hx => by
    simp only [hget] at hx
    split at hx
    · simp only [Option.some.injEq] at hx; subst hx; exact h.1
    · exact cleanHeap_get h.2 r x hx
def envLGo (e : List (Nat × PV)) : List (Nat × PV) → List PV
  | [] => []
  | (t, _) :: l => eget e t :: envLGo e l
def envL (e : List (Nat × PV)) : List PV := envLGo e e
def heldGo (tmps : Array Value) : List (Nat × PV) → List Value
  | [] => []
  | (t, _) :: l => tmps.getD t undef :: heldGo tmps l
theorem heldGo_get {w : World} {X : Nat → Nat → Prop} {φ : Nm} {H : Heap} {tmps : Array Value} {e : List (Nat × PV)} (h : ∀ t, RepV w X φ H (tmps.getD t undef) (eget e t)) :
    ∀ l : List (Nat × PV), (heldGo tmps l).length = (envLGo e l).length ∧ ∀ i (hi : i < (envLGo e l).length), RepV w X φ H ((heldGo tmps l).getD i undef) (envLGo e l)[i]
  | [] => ⟨rfl, fun i hi => by simp [envLGo] at hi⟩
  | (t, v) :: l => by
    obtain ⟨h1, h2⟩ := heldGo_get h l
    refine ⟨by simp [heldGo, envLGo, h1], fun i hi => ?_⟩
    cases i with
    | zero => simpa [heldGo, envLGo] using h t
    | succ i => simpa [heldGo, envLGo] using h2 i (by simpa [envLGo] using hi)
theorem heldGo_back {w : World} {X : Nat → Nat → Prop} {φ : Nm} {H : Heap} {tmps : Array Value} {e : List (Nat × PV)} : ∀ {l : List (Nat × PV)}, (∀ i (hi : i < (envLGo e l).length), RepV w X φ H ((heldGo tmps l).getD i undef) (envLGo e l)[i]) →
    ∀ t v, (t, v) ∈ l → RepV w X φ H (tmps.getD t undef) (eget e t)
  | (s, u) :: l, h, t, v, hm => by
    rcases List.mem_cons.1 hm with hm | hm
    · cases hm
      simpa [heldGo, envLGo] using h 0 (by simp [envLGo])
    · exact heldGo_back (l := l) (fun i hi => by simpa [heldGo, envLGo] using h (i + 1) (by simpa [envLGo] using hi)) t v hm
theorem eget_mem {l : List (Nat × PV)} {t : Nat} : eget l t = .any ∨ ∃ v, (t, v) ∈ l := by
  induction l with
  | nil => exact .inl rfl
  | cons x l ih =>
    obtain ⟨s, v⟩ := x
    simp only [eget]
    by_cases h : s = t
    · subst h; exact .inr ⟨v, by simp⟩
    · rw [if_neg h]
      rcases ih with h | ⟨u, h⟩
      · exact .inl h
      · exact .inr ⟨u, by simp [h]⟩
def pseudo (e : List (Nat × PV)) (a : Act) : Deferred := { target := .fn (.func 0) (heldGo a.tmps e).toArray, args := #[] }
section
variable {P : Program} {G : List (Nat × PD)} {B : Base P} {N : Nat} {σ : St} {a : Act} {w w' : World} {φ φ' : Nm} {H : Heap} {X X' : Nat → Nat → Prop}
theorem RepV.move (hd : ∀ b kk, okd w X φ H b kk → okd w' X' φ H b kk) (hk : ∀ b kk c e f, okd w X φ H b kk → w.heap[b]? = some (.cells c e f) → w'.heap[b]? = some (.cells c e f))
    (hrow : ∀ r x b, hget H r = some x → φ r = some b → w'.heap[b]? = w.heap[b]?) {v : Value} {p : PV} (hv : RepV w X φ H v p) : clean p → RepV w' X' φ H v p := by
  have hdd : ∀ {v : Value} {x : PD}, RepD w (okd w X φ H) v x → RepD w' (okd w' X' φ H) v x := fun h => h.mono' hd hk
  induction hv with
  | any v => intro _; exact .any v
  | d h => intro _; exact .d (hdd h)
  | b h => intro h0; simp [clean] at h0
  | ptr hx hφ h1 => intro _; exact .ptr hx hφ h1
  | mp hx hφ h1 => intro _; exact .mp hx hφ h1
  | dptr h hi => intro _; exact .dptr (hdd h) hi
  | bptr h hi => intro h0; simp [clean] at h0
  | glob g => intro _; exact .glob g
  | val hf => intro _; exact .val hf
  | slc hx hφ h1 hn hc hl hz => intro _; exact .slc hx hφ h1 hn hc hl (fun c e f h => hz c e f (by rw [← hrow _ _ _ hx hφ]; exact h))
  | slc0 hx hφ h1 hp => intro _; exact .slc0 hx hφ h1 hp
  | func hs _ ih => intro h0; simp only [clean] at h0; exact .func hs fun i hi => ih i hi (cleanL_get h0 i hi)
  | agg hs _ hf ih => intro h0; simp only [clean] at h0; exact .agg hs (fun i hi => ih i hi (cleanL_get h0 i hi)) hf
  | tuple hs _ ih => intro h0; simp only [clean] at h0; exact .tuple hs fun i hi => ih i hi (cleanL_get h0 i hi)
theorem HeapOk.move (h : HeapOk w X φ H) (hT : ∀ b, ¬ φ.T b) (hc : cleanHeap H) (hd : ∀ b kk, okd w X φ H b kk → okd w' X' φ H b kk) (hk : ∀ b kk c e f, okd w X φ H b kk → w.heap[b]? = some (.cells c e f) → w'.heap[b]? = some (.cells c e f))
    (hrow : ∀ r x b, hget H r = some x → φ r = some b → w'.heap[b]? = w.heap[b]?) (hfree : ∀ b, rowB φ H b → ∀ kk, ¬ X' b kk) : HeapOk w' X' φ H := by
  refine ⟨fun r x b hx hb => ?_, h.void, h.inj, fun b hb => absurd hb (hT b)⟩
  exact (h.rows r x b hx hb).turn rfl rfl rfl (fun _ _ h' => (hrow r x b hx hb).trans h') (hfree b ⟨r, x, hx, hb⟩) (fun i hi _ v hv => hv.move hd hk hrow (cleanL_get (cleanHeap_get hc r x hx) i hi)) fun _ h => h
theorem GlobOk.move (h : GlobOk G w X φ H) (hd : ∀ b kk, okd w X φ H b kk → okd w' X' φ H b kk) (hk : ∀ b kk c e f, okd w X φ H b kk → w.heap[b]? = some (.cells c e f) → w'.heap[b]? = some (.cells c e f)) : GlobOk G w' X' φ H := by
  intro g x hm
  obtain ⟨c, e, f, v, h1, h2, h3, h4, h5, h6⟩ := h g x hm
  have ho : okd w X φ H g 0 := ⟨(Array.getElem?_eq_some_iff.1 h1).1, h6, h2⟩
  exact ⟨c, e, f, v, hk g 0 c e f ho h1, h2, h3.mono' hd hk, h4, h5, (hd g 0 ho).2.1⟩
theorem GlobOk.cells (h : GlobOk G w X φ H) (hs : w'.heap.size = w.heap.size) (hw : ∀ (b : Nat) (o : Obj), o.dat = true → (w'.heap[b]? = some o ↔ w.heap[b]? = some o)) : GlobOk G w' X φ H :=
  h.move (fun b kk hb => ⟨hs.symm ▸ hb.1, hb.2⟩) (fun b kk c e f _ h => (hw b _ rfl).2 h)
theorem HeapOk.cells (h : HeapOk w X φ H) (hs : w'.heap.size = w.heap.size) (hw : ∀ (b : Nat) (o : Obj), o.dat = true → (w'.heap[b]? = some o ↔ w.heap[b]? = some o)) : HeapOk w' X φ H := by
  refine ⟨fun r x b hx hb => ?_, h.void, h.inj, fun b hT => ⟨hs.symm ▸ (h.far b hT).1, (h.far b hT).2⟩⟩
  exact (h.rows r x b hx hb).turn rfl rfl rfl (fun o ho h' => (hw _ o ho).2 h') (h.rows r x b hx hb).free (fun i hi _ v hv => hv.cells hs hw) fun _ h => h
theorem csz_cells (hw : ∀ (b : Nat) (o : Obj), o.dat = true → (w'.heap[b]? = some o ↔ w.heap[b]? = some o)) {b : Nat} {o : Obj} (ho : o.dat = true) (h : w.heap[b]? = some o) : csz w' b = csz w b := by
  unfold csz; rw [(hw _ o ho).2 h, h]
theorem put_loop {l : Nat} {r : Loop} {r' : Loop} (h : w.heap[l]? = some (.loop r)) (b : Nat) (o : Obj) (ho : o.dat = true) : (w.putObj l (.loop r')).heap[b]? = some o ↔ w.heap[b]? = some o := by
  by_cases hb : b = l
  · subst hb
    rw [World.putObj_heap_same (Array.getElem?_eq_some_iff.1 h).1, h]; cases o <;> simp_all [Obj.dat]
  · rw [World.putObj_heap_other hb]
theorem not_row {b : Nat} (h : HeapOk w X φ H) (hb : ∀ o, o.dat = true → w.heap[b]? ≠ some o) : ¬ rowB φ H b := by
  rintro ⟨r, x, hx, hφ⟩
  obtain ⟨o, h1, h2⟩ := (h.rows r x b hx hφ).some
  exact hb _ h2 h1
structure Bet (G : List (Nat × PD)) (B : Base P) (a : Act) (e : List (Nat × PV)) (H : Heap) (M : Nat → Nat → Prop) (T : Nat → Prop) (l D : Nat) (rec : Loop) (w : World) (φ : Nm) : Prop where
  heap : HeapOk w M φ H
  noT : ∀ b, ¬ φ.T b
  env : ∀ t, RepV w M φ H (a.tmps.getD t undef) (eget e t)
  glob : GlobOk G w M φ H
  ts : ∀ b, T b ↔ rowB φ H b ∨ b = l ∨ b = D
  loop : w.heap[l]? = some (.loop rec)
  mark : w.heap[D]? = some (.deferred (some []))
  new : ∀ r x b, hget H r = some x → φ r = some b → B.o0 b ∨ B.w0.heap.size ≤ b
  pins : ∀ r x, hget H r = some x → pinned r = true → φ r = B.φ0 r
  psz : ∀ r x b, hget H r = some x → pinned r = true → φ r = some b → csz w b = B.z0 b
  size : B.w0.heap.size ≤ w.heap.size
  mfar : (∀ kk, ¬ M l kk) ∧ ∀ kk, ¬ M D kk
variable {e : List (Nat × PV)} {M M' : Nat → Nat → Prop} {T T' : Nat → Prop} {l D : Nat} {rec rec' : Loop}
theorem Bet.ne (h : Bet G B a e H M T l D rec w φ) : D ≠ l := fun e => by
  have h1 := h.loop
  have h2 := h.mark
  rw [e, h1] at h2; simp at h2
theorem Bet.stab (h : Bet G B a e H M T l D rec w φ) (hce : cleanEnv e) (hch : cleanHeap H) (hsz : w.heap.size ≤ w'.heap.size) (hk : ∀ b kk, b < w.heap.size → ¬ M b kk → w'.heap[b]? = w.heap[b]?) (hM : ∀ b kk, M' b kk → M b kk ∨ w.heap.size ≤ b) : Bet G B a e H M' T l D rec w' φ := by
  have hl := (Array.getElem?_eq_some_iff.1 h.loop).1
  have hD := (Array.getElem?_eq_some_iff.1 h.mark).1
  have hMn : ∀ b kk, b < w.heap.size → ¬ M b kk → ¬ M' b kk := fun b kk hb hm hm' => (hM b kk hm').elim hm (by omega)
  have hd : ∀ b kk, okd w M φ H b kk → okd w' M' φ H b kk := fun b kk hb => ⟨Nat.lt_of_lt_of_le hb.1 hsz, hMn b kk hb.1 hb.2.1, hb.2.2⟩
  have hkc : ∀ b kk c e f, okd w M φ H b kk → w.heap[b]? = some (.cells c e f) → w'.heap[b]? = some (.cells c e f) := fun b kk c e f hb hc => (hk b kk hb.1 hb.2.1).trans hc
  have hrow : ∀ r x b, hget H r = some x → φ r = some b → w'.heap[b]? = w.heap[b]? := fun r x b hx hb => hk b 0 (h.heap.lt hx hb) ((h.heap.rows r x b hx hb).free 0)
  exact ⟨h.heap.move h.noT hch hd hkc hrow (fun b ⟨r, x, hx, hb⟩ kk => hMn b kk (h.heap.lt hx hb) ((h.heap.rows r x b hx hb).free kk)), h.noT, fun t => (h.env t).move hd hkc hrow (cleanEnv_get hce t), h.glob.move hd hkc, h.ts,
    (hk l 0 hl (h.mfar.1 0)).trans h.loop, (hk D 0 hD (h.mfar.2 0)).trans h.mark, h.new, h.pins, fun r x b h1 h2 h3 => (csz_of (hrow r x b h1 h3)).trans (h.psz r x b h1 h2 h3), Nat.le_trans h.size hsz, fun kk => hMn l kk hl (h.mfar.1 kk), fun kk => hMn D kk hD (h.mfar.2 kk)⟩
def QB (G : List (Nat × PD)) (N : Nat) (e : List (Nat × PV)) (p : List PD → Prop) (I : List PD → Heap) (ok : Nat → List PD → Prop) (Hx : Nat → List PD → Heap) (xs : List PD) : Post
  | .normal, τ => p xs ∧ Sub G N τ ⟨[], I xs, [.func (.func 0) (envL e)], none⟩
  | .exit id, τ => ok id xs ∧ Sub G N τ ⟨[], Hx id xs, [.func (.func 0) (envL e)], none⟩
  | _, _ => False
def Base.round (B : Base P) (a : Act) (e : List (Nat × PV)) (M : Nat → Nat → Prop) (l : Nat) (w : World) (hM : ∀ b kk, M b kk → b < w.heap.size) (o : Nat → Prop) : Base P :=
  { w0 := w, X := M, hX := hM, o0 := o, φ0 := B.φ0, z0 := B.z0, ro := some l, held := [pseudo e a], hheld := fun h => (by cases h), J := fun _ _ _ _ => True, stab := fun _ _ _ _ _ _ _ _ _ _ _ _ _ => trivial, y := none, yok := fun _ _ h => by cases h }
theorem Rep.no_gh {Br : Base P} (hy : Br.y = none) (hf : Br.fr = false) (hr : Rep G Br N σ a w φ) : σ.gh = none ∧ ∀ b, ¬ φ.T b := by
  have h := hr.inv
  cases hg : σ.gh with
  | none => rw [hg] at h; exact ⟨rfl, h⟩
  | some g => 
    obtain ⟨l, all, xs, c⟩ := g
    rw [hg] at h
    rcases h with h | h
    · have := h.1
      rw [hy] at this; cases this
    · rw [hf] at h; cases h.1
theorem Dfr.cells {m m' : Nat → Prop} {ds : List Deferred} {ps : List PV} (hm : ∀ D, ¬ m D) (hs : w'.heap.size = w.heap.size) (hw : ∀ (b : Nat) (o : Obj), o.dat = true → (w'.heap[b]? = some o ↔ w.heap[b]? = some o))
    (h : Dfr m w X φ H ds ps) : Dfr m' w' X φ H ds ps := by
  induction h with
  | nil => exact .nil
  | fn h1 h2 h3 _ ih => exact .fn h1 h2 (h3.cells hs hw) ih
  | mark h0 => exact absurd h0 (hm _)
theorem held_back {a2 : Act} {τ : St} {w2 : World} {φ2 : Nm} {Br : Base P} (hro : Br.ro = some l) (hh : Br.held = [pseudo e a]) (hr : Rep G Br N τ a2 w2 φ2) (hd : τ.dfr = [.func (.func 0) (envL e)]) : ∀ t, RepV w2 Br.X φ2 τ.heap (a.tmps.getD t undef) (eget e t) := by
  have h := hr.dfr
  rw [hd, hh] at h
  have hm : ∀ D, ¬ (τ.gh = none ∧ Br.ro = none ∧ Br.w0.heap.size ≤ D) := fun D hD => by rw [hro] at hD; cases hD.2.1
  obtain ⟨d, fn, caps, h1, h2, h3, h4⟩ := h.one_left hm
  have hnil : a2.defers = [] := by
    have := congrArg List.length h1
    simp at this; exact this
  rw [hnil] at h1
  simp only [List.nil_append, List.cons.injEq, and_true] at h1
  subst h1
  simp only [pseudo, Target.fn.injEq] at h2
  obtain ⟨rfl, rfl⟩ := h2
  cases h4 with | func hs h5 =>
  intro t
  rcases eget_mem (l := e) (t := t) with h | ⟨v, h⟩
  · rw [h]; exact .any _
  · exact heldGo_back (l := e) (fun i hi => by
      have := h5 i hi
      simpa [List.getD, Array.getD_eq_getD_getElem?, envL] using this) t v h
end
end Go.Pv

namespace Go.Pv
def LoopJ {P : Program} (G : List (Nat × PD)) (B : Base P) (a : Act) (e : List (Nat × PV)) (p : List PD → Prop) (I : List PD → Heap) (ok : Nat → List PD → Prop) (Hx : Nat → List PD → Heap) (l D : Nat) (rec : LoopState → Option Code → Loop) :
    List PD × Bool → (Nat → Nat → Prop) → (Nat → Prop) → World → Prop
  | (xs, true), M, T, w => p xs ∧ ∃ φ, Bet G B a e (I xs) M T l D (rec .ready none) w φ
  | (xs, false), M, T, w => ∃ id, ok id xs ∧ ∃ φ, Bet G B a e (Hx id xs) M T l D (rec .done (some (.exit id))) w φ
section
variable {P : Program} {G : List (Nat × PD)} {B : Base P} {N : Nat} {σ : St} {a : Act} {w w' : World} {φ φ' : Nm} {e : List (Nat × PV)} {M : Nat → Nat → Prop} {T : Nat → Prop} {l D : Nat}
  {p : List PD → Prop} {I : List PD → Heap} {ok : Nat → List PD → Prop} {Hx : Nat → List PD → Heap} {t : Tmp} {assign body : Code} {xs : List PD} {x : PD} {v : Value} {fid : FuncId}
theorem Bet.round (rec : LoopState → Option Code → Loop) (hrec : ∀ st pe, rec st pe = { state := st, pending := pe, fn := fid, tmps := a.tmps, params := #[t], assign, body, defers := D })
    (hb : Bet G B a e (I xs) M T l D (rec .ready none) w φ) (hN : a.tmps.size = N) (ht : t < N) (hMlt : ∀ b kk, M b kk → b < w.heap.size) (hv : RepD w (fun b kk => b < w.heap.size ∧ ¬ M b kk ∧ ¬ T b) v x)
    (hbody : AWp P G (some l) N assign ⟨eput e t (.d x), I xs, [.func (.func 0) (envL e)], none⟩ (Post.then (fun τ1 => AWp P G (some l) N body τ1 (QB G N e p I ok Hx (xs ++ [x]))) (fun _ _ => False))) :
    ∃ f tmps asg bdy, (invoke (.fn (.yield l) #[]) #[v]).run P w = .ok (.round l f tmps asg bdy) w ∧ RoundIn Fence.wide 0 P l f tmps asg bdy w fun e' w' => ∃ b T', e' = .returned (.bool b) ∧ LoopJ G B a e p I ok Hx l D rec (xs ++ [x], b) M T' w' ∧
      (∀ c, T' c → T c ∨ w.heap.size ≤ c) ∧ (∀ c, T' c → c < w'.heap.size) ∧ w'.os = w.os ∧ w'.tape = w.tape ∧ w'.output = w.output ∧ w.heap.size ≤ w'.heap.size ∧ ∀ c, c < w.heap.size → ¬ T c → w'.heap[c]? = w.heap[c]? := by
  have hl := (Array.getElem?_eq_some_iff.1 hb.loop).1
  have hD := (Array.getElem?_eq_some_iff.1 hb.mark).1
  have hne := hb.ne
  have hy := run_yield (P := P) (args := #[v]) hb.loop (by rw [hrec]; rfl)
  rw [hrec] at hy
  refine ⟨_, _, _, _, hy, roundIn_of_wpIn trivial ?_⟩
  -- the round's frame, when it begins
  obtain ⟨Br, hBr⟩ : ∃ Br, Br = B.round a e M l w hMlt (rowB φ (I xs)) := ⟨_, rfl⟩
  have htmps : ((#[t] : Array Tmp).zip #[v]).foldl (fun tmps (t, a) => tmps.setIfInBounds t a) a.tmps = a.tmps.setIfInBounds t v := by simp
  have hxd : RepD w (okd w M φ (I xs)) v x := hv.mono (fun b kk h => ⟨h.1, h.2.1, fun ho => h.2.2 ((hb.ts b).2 (ho.elim .inl (fun h => absurd h (hb.noT b))))⟩) (fun _ _ _ => rfl)
  have hrep0 : Rep G Br N ⟨eput e t (.d x), I xs, [.func (.func 0) (envL e)], none⟩ { tmps := a.tmps.setIfInBounds t v, defers := [] } w φ := by
    subst hBr
    refine ⟨by simpa using hN, fun s => ?_, hb.heap, .refl _ _, fun r y b h1 h2 => .inl ⟨r, y, h1, h2⟩, hb.pins, hb.psz, hb.glob, fun b h => absurd h (hb.noT b), hb.noT, ?_⟩
    · show RepV w M φ (I xs) ((a.tmps.setIfInBounds t v).getD s undef) (eget (eput e t (.d x)) s)
      simp only [eget_eput]
      split
      · rename_i h; subst h
        have hlt : t < a.tmps.size := hN ▸ ht
        simpa [Array.getD, hlt] using RepV.d (φ := φ) (X := M) (H := I xs) hxd
      · rename_i h
        have := hb.env s
        simpa [Array.getD_eq_getD_getElem?, Array.getElem?_setIfInBounds, h] using this
    · obtain ⟨h1, h2⟩ := heldGo_get hb.env e
      refine .fn (d := pseudo e a) rfl rfl (.func (by simpa [envL] using h1) (fun i hi => ?_)) .nil
      show RepV w M φ (I xs) _ _
      rw [show (heldGo a.tmps e).toArray.getD i undef = (heldGo a.tmps e).getD i undef by simp [List.getD, Array.getD_eq_getD_getElem?]]
      exact h2 i hi
  rw [htmps]
  refine hbody Br (by subst hBr; rfl) _ w φ hrep0 _ fun e1 τ1 a1 w1 φ1 he1 hr1 => ?_
  cases e1 with
  | normal =>
    change AWp P G (some l) N body τ1 (QB G N e p I ok Hx (xs ++ [x])) at he1
    have hk1 : Keeps (rowB φ (I xs)) w w1 := by have := hr1.keeps; subst hBr; exact this
    have hnl : ¬ rowB φ (I xs) l := not_row hb.heap (fun o ho h => by rw [hb.loop] at h; cases h; cases ho)
    have hnD : ¬ rowB φ (I xs) D := not_row hb.heap (fun o ho h => by rw [hb.mark] at h; cases h; cases ho)
    have hl1 : w1.heap[l]? = some (.loop (rec .ready none)) := (hk1.block l hl hnl).trans hb.loop
    have hm1 : w1.heap[D]? = some (.deferred (some [])) := (hk1.block D hD hnD).trans hb.mark
    obtain ⟨busy, hbusy⟩ : ∃ r, r = { rec .ready none with state := .busy } := ⟨_, rfl⟩
    refine ⟨_, run_beginRound hl1 (by rw [hrec]), ?_⟩
    rw [← hbusy]
    obtain ⟨wb, hwb⟩ : ∃ wb, wb = w1.putObj l (.loop busy) := ⟨_, rfl⟩
    rw [← hwb]
    have hsb : wb.heap.size = w1.heap.size := by rw [hwb]; simp
    have hcb : ∀ (b : Nat) (o : Obj), o.dat = true → (wb.heap[b]? = some o ↔ w1.heap[b]? = some o) := by rw [hwb]; exact put_loop hl1
    have hlb : wb.heap[l]? = some (.loop busy) := by rw [hwb]; exact World.putObj_heap_same (Array.getElem?_eq_some_iff.1 hl1).1
    have hmb : wb.heap[D]? = some (.deferred (some [])) := by rw [hwb, World.putObj_heap_other hne]; exact hm1
    obtain ⟨hg1, hT1⟩ := hr1.no_gh (by subst hBr; rfl) (by subst hBr; rfl)
    obtain ⟨Bs, hBs⟩ : ∃ Bs, Bs = B.round a e M l wb (fun b kk h => by rw [hsb]; exact Nat.lt_of_lt_of_le (hMlt b kk h) hk1.size) (rowB φ1 τ1.heap) := ⟨_, rfl⟩
    have hX1 : Br.X = M := by subst hBr; rfl
    have hrep1 : Rep G Bs N τ1 a1 wb φ1 := by
      have h1 := hr1.env
      have h2 := hr1.heap
      have h3 := hr1.glob
      have h4 := hr1.dfr
      have h5 := hr1.pins
      have h6 := hr1.psz
      rw [hX1] at h1 h2 h3 h4
      subst hBs
      refine ⟨hr1.size, fun s => (h1 s).cells hsb hcb, h2.cells hsb hcb, .refl _ _, fun r y b h1 h2 => .inl ⟨r, y, h1, h2⟩, ?_, fun r y b h7 h8 h9 => ?_, h3.cells hsb hcb, fun b h => absurd h (hT1 b), by rw [hg1]; exact hT1, ?_⟩
      · subst hBr; exact h5
      · obtain ⟨o, h10, ho⟩ := (h2.rows r y b h7 h9).some
        have := h6 r y b h7 h8 h9
        subst hBr
        exact (csz_cells hcb ho h10).trans this
      · subst hBr
        exact h4.cells (fun D hD => by cases hD.2.1) hsb hcb
    refine he1 Bs (by subst hBs; rfl) a1 wb φ1 hrep1 _ fun e2 τ2 a2 w2 φ2 he2 hr2 => ?_
    have hk2 : Keeps (rowB φ1 τ1.heap) wb w2 := by have := hr2.keeps; subst hBs; exact this
    -- blocks that no row of the round has
    have hrow1 : ∀ b, rowB φ1 τ1.heap b → rowB φ (I xs) b ∨ w.heap.size ≤ b := fun b ⟨r, y, h1, h2⟩ => by
      have := hr1.new r y b h1 h2
      subst hBr; exact this
    have hnl1 : ¬ rowB φ1 τ1.heap l := not_row hr1.heap (fun o ho h => by rw [hl1] at h; cases h; cases ho)
    have hnD1 : ¬ rowB φ1 τ1.heap D := not_row hr1.heap (fun o ho h => by rw [hm1] at h; cases h; cases ho)
    have hl2 : w2.heap[l]? = some (.loop busy) := (hk2.block l (by rw [hsb]; exact Nat.lt_of_lt_of_le hl hk1.size) hnl1).trans hlb
    have hm2 : w2.heap[D]? = some (.deferred (some [])) := (hk2.block D (by rw [hsb]; exact Nat.lt_of_lt_of_le hD hk1.size) hnD1).trans hmb
    have hchain : ∀ c, c < w.heap.size → ¬ T c → w2.heap[c]? = w.heap[c]? := fun c hc hT => by
      have h1 : ¬ rowB φ (I xs) c := fun h => hT ((hb.ts c).2 (.inl h))
      have h2 : c ≠ l := fun h => hT ((hb.ts c).2 (.inr (.inl h)))
      have h3 : ¬ rowB φ1 τ1.heap c := fun h => (hrow1 c h).elim h1 (by omega)
      rw [hk2.block c (by rw [hsb]; exact Nat.lt_of_lt_of_le hc hk1.size) h3, hwb, World.putObj_heap_other h2, hk1.block c hc h1]
    -- the end of the round
    have fin : ∀ (H3 : Heap) (jump : Option Code), Sub G N τ2 ⟨[], H3, [.func (.func 0) (envL e)], none⟩ → ∃ φ3, (Instr.endRound l jump).run P w2 = .ok (.bool jump.isNone) (w2.putObj l (.loop (rec (if jump.isNone then .ready else .done) jump))) ∧
        Bet G B a e H3 M (fun b => rowB φ3 H3 b ∨ b = l ∨ b = D) l D (rec (if jump.isNone then .ready else .done) jump) (w2.putObj l (.loop (rec (if jump.isNone then .ready else .done) jump))) φ3 ∧
        (∀ c, (rowB φ3 H3 c ∨ c = l ∨ c = D) → T c ∨ w.heap.size ≤ c) ∧ (∀ c, (rowB φ3 H3 c ∨ c = l ∨ c = D) → c < (w2.putObj l (.loop (rec (if jump.isNone then .ready else .done) jump))).heap.size) := fun H3 jump hsub => by
      obtain ⟨φ3, hr3⟩ := hsub P Bs a2 w2 φ2 hr2
      obtain ⟨hg3, hT3⟩ := hr3.no_gh (by subst hBs; rfl) (by subst hBs; rfl)
      have hend := run_endRound (P := P) jump hl2
      have hr' : ({ busy with state := if jump.isNone then .ready else .done, pending := jump } : Loop) = rec (if jump.isNone then .ready else .done) jump := by rw [hbusy]; simp only [hrec]
      rw [hr'] at hend
      have hs3 : (w2.putObj l (.loop (rec (if jump.isNone then .ready else .done) jump))).heap.size = w2.heap.size := by simp
      have hc3 := put_loop (r' := rec (if jump.isNone then .ready else .done) jump) hl2
      have hX3 : Bs.X = M := by subst hBs; rfl
      have hnew3 : ∀ b, rowB φ3 H3 b → rowB φ (I xs) b ∨ w.heap.size ≤ b := fun b ⟨r, y, h1, h2⟩ => by
        have := hr3.new r y b h1 h2
        subst hBs
        rcases this with h | h
        · exact hrow1 b h
        · exact .inr (Nat.le_trans hk1.size (by have h : wb.heap.size ≤ b := h; omega))
      have henv := held_back (Br := Bs) (a := a) (e := e) (by subst hBs; rfl) (by subst hBs; rfl) hr3 rfl
      have hheap := hr3.heap
      have hglob := hr3.glob
      rw [hX3] at henv hheap hglob
      refine ⟨φ3, hend, ⟨hheap.cells hs3 hc3, hT3, fun s => (henv s).cells hs3 hc3, hglob.cells hs3 hc3, fun b => Iff.rfl, World.putObj_heap_same (Array.getElem?_eq_some_iff.1 hl2).1, (World.putObj_heap_other hne).trans hm2, fun r y b h1 h2 => ?_, ?_, fun r y b h1 h2 h3 => ?_, ?_, hb.mfar⟩, fun c hc => ?_, fun c hc => ?_⟩
      · rcases hnew3 b ⟨r, y, h1, h2⟩ with ⟨r', y', h3, h4⟩ | h
        · exact hb.new r' y' b h3 h4
        · exact .inr (Nat.le_trans hb.size h)
      · have := hr3.pins
        subst hBs; exact this
      · obtain ⟨o, h10, ho⟩ := (hheap.rows r y b h1 h3).some
        have := hr3.psz r y b h1 h2 h3
        subst hBs
        exact (csz_cells hc3 ho h10).trans this
      · rw [hs3]; exact Nat.le_trans hb.size (Nat.le_trans hk1.size (hsb ▸ hk2.size))
      · rcases hc with h | h
        · rcases hnew3 c h with h | h
          · exact .inl ((hb.ts c).2 (.inl h))
          · exact .inr h
        · exact .inl ((hb.ts c).2 (.inr h))
      · rw [hs3]
        rcases hc with ⟨r, y, h1, h2⟩ | rfl | rfl
        · exact hr3.heap.lt h1 h2
        · exact (Array.getElem?_eq_some_iff.1 hl2).1
        · exact (Array.getElem?_eq_some_iff.1 hm2).1
    have hos : w2.os = w.os := by rw [hk2.os, hwb]; exact hk1.os
    have htp : w2.tape = w.tape := by rw [hk2.tape, hwb]; exact hk1.tape
    have hou : w2.output = w.output := by rw [hk2.output, hwb]; exact hk1.output
    have hsz : w.heap.size ≤ w2.heap.size := Nat.le_trans hk1.size (hsb ▸ hk2.size)
    have last : ∀ o, (∀ c, c < w.heap.size → ¬ T c → (w2.putObj l o).heap[c]? = w.heap[c]?) := fun o c hc hT => by
      have h2 : c ≠ l := fun h => hT ((hb.ts c).2 (.inr (.inl h)))
      rw [World.putObj_heap_other h2]; exact hchain c hc hT
    cases e2 with
    | normal =>
      obtain ⟨hp, hsub⟩ := he2
      obtain ⟨φ3, h1, h2, h3, h4⟩ := fin _ none hsub
      exact ⟨_, _, h1, true, _, rfl, ⟨hp, φ3, h2⟩, h3, h4, hos, htp, hou, by simpa using hsz, last _⟩
    | exit id =>
      obtain ⟨hp, hsub⟩ := he2
      obtain ⟨φ3, h1, h2, h3, h4⟩ := fin _ (some (.exit id)) hsub
      exact ⟨_, _, h1, false, _, rfl, ⟨id, hp, φ3, h2⟩, h3, h4, hos, htp, hou, by simpa using hsz, last _⟩
    | _ => exact he2.elim
  | _ => exact he1.elim
end
end Go.Pv

namespace Go.Pv
section
variable {P : Program} {G : List (Nat × PD)} {B : Base P} {N : Nat} {σ : St} {a : Act} {w w' : World} {φ φ' : Nm} {Q : Post}
theorem RepV.free {X X' : Nat → Nat → Prop} {φ φ' : Nm} {H H' : Heap} (hd : ∀ b kk, okd w X φ H b kk → okd w' X' φ' H' b kk) (hk : ∀ b kk, okd w X φ H b kk → w'.heap[b]? = w.heap[b]?) {v : Value} {p : PV} (hv : RepV w X φ H v p) : dOnly p → RepV w' X' φ' H' v p := by
  induction hv with
  | any v => intro _; exact .any v
  | d h => intro _; exact .d (h.mono hd hk)
  | b h => intro h0; simp [dOnly] at h0
  | ptr h1 => intro h0; simp [dOnly] at h0
  | mp h1 => intro h0; simp [dOnly] at h0
  | dptr h hi => intro _; exact .dptr (h.mono hd hk) hi
  | bptr h hi => intro h0; simp [dOnly] at h0
  | glob g => intro _; exact .glob g
  | val hf => intro _; exact .val hf
  | slc h1 => intro h0; simp [dOnly] at h0
  | slc0 h1 => intro h0; simp [dOnly] at h0
  | func hs _ ih => intro h0; simp only [dOnly] at h0; exact .func hs fun i hi => ih i hi (dOnlyL_get h0 i hi)
  | agg hs _ hf ih => intro h0; simp only [dOnly] at h0; exact .agg hs (fun i hi => ih i hi (dOnlyL_get h0 i hi)) hf
  | tuple hs _ ih => intro h0; simp only [dOnly] at h0; exact .tuple hs fun i hi => ih i hi (dOnlyL_get h0 i hi)
theorem Dfr.marks {m m' : Nat → Prop} {X X' : Nat → Nat → Prop} {φ φ' : Nm} {H H' : Heap} {ds : List Deferred} (h : Dfr m w X φ H ds []) (hm : ∀ D, m D → m' D) (hd : ∀ D, okd w X φ H D 0 → w.heap[D]? = some (.deferred (some [])) → okd w' X' φ' H' D 0 ∧ w'.heap[D]? = w.heap[D]?) : Dfr m' w' X' φ' H' ds [] := by
  generalize hp : ([] : List PV) = ps at h ⊢
  induction h with
  | nil => exact .nil
  | fn => cases hp
  | mark h0 h1 h2 h3 _ ih => exact .mark (hm _ h0) (hd _ h1 h2).1 ((hd _ h1 h2).2.trans h2) h3 (ih hp)
end
end Go.Pv

namespace Go.Pv
def RowFn (P : Program) (G : List (Nat × PD)) (f : FuncId) (args : List PV) (e k : Nat) (l : List PD) : Prop :=
  Fn P G f args [] fun p H' => p = .slc 1000 0 l.length ∧ H' = [(1000, { e, k, els := dl l })]
@[go_sem] theorem dl_ren (ρ : Nat → Nat) (l : List PD) : renL ρ (dl l) = dl l := by
  induction l with
  | nil => rfl
  | cons x l ih => rw [dl_cons]; simp only [renL, PV.ren, ih]
@[go_sem] theorem dl_clean (l : List PD) : cleanL (dl l) = True := by
  induction l with
  | nil => simp [dl, cleanL]
  | cons x l ih => rw [dl_cons]; simp only [cleanL, clean, ih, and_self]
@[go_sem] theorem dl_rows (l : List PD) : rowsOfL (dl l) = [] := by
  induction l with
  | nil => simp [dl, rowsOfL]
  | cons x l ih => rw [dl_cons]; simp only [rowsOfL, rowsOf, ih, List.append_nil]
mutual
theorem kill_id {r : Nat} : ∀ (p : PV), r ∉ rowsOf p → p.kill r = p
  | .ptr s i off, h => by simp only [rowsOf, List.mem_singleton] at h; simp only [PV.kill]; rw [if_neg (Ne.symm h)]
  | .slc s lo n, h => by simp only [rowsOf, List.mem_singleton] at h; simp only [PV.kill]; rw [if_neg (Ne.symm h)]
  | .mp s, h => by simp only [rowsOf, List.mem_singleton] at h; simp only [PV.kill]; rw [if_neg (Ne.symm h)]
  | .func fn l, h => by simp only [rowsOf] at h; simp only [PV.kill, killL_id l h]
  | .agg l, h => by simp only [rowsOf] at h; simp only [PV.kill, killL_id l h]
  | .tuple l, h => by simp only [rowsOf] at h; simp only [PV.kill, killL_id l h]
  | .any, _ => by simp only [PV.kill]
  | .d _, _ => by simp only [PV.kill]
  | .b _, _ => by simp only [PV.kill]
  | .dptr _ _ _ _, _ => by simp only [PV.kill]
  | .bptr _ _ _ _, _ => by simp only [PV.kill]
  | .glob _, _ => by simp only [PV.kill]
  | .val _, _ => by simp only [PV.kill]
theorem killL_id {r : Nat} : ∀ (l : List PV), r ∉ rowsOfL l → killL r l = l
  | [], _ => by simp only [killL]
  | p :: l, h => by
    simp only [rowsOfL, List.mem_append, not_or] at h
    simp only [killL, kill_id p h.1, killL_id l h.2]
end
section
variable {P : Program} {G : List (Nat × PD)} {ro : Option Nat} {N : Nat} {xs : Exc} {σ : St} {o : Oper} {K : St → Prop}
theorem hand_nil (σ : St) : Hand σ [] id := ⟨fun r x h => by simp [hget] at h, fun r x h => by simp [hget] at h, fun r s x y h => by simp [hget] at h, fun r x h => by simp [hget] at h⟩
theorem handsOk_of_args {H : Heap} : ∀ {l m : List PV}, argsOk H l m → handsOk H [] id l m
  | [], [], _ => trivial
  | p :: l, q :: m, h => by
    refine ⟨?_, handsOk_of_args h.2⟩
    have h1 := h.1
    cases q with
    | any => trivial
    | d x => exact h1
    | b x =>
      rcases h1 with h1 | h1
      · exact .inl h1
      · refine .inr ⟨h1, ?_⟩
        generalize rowsOf p = rs
        induction rs with
        | nil => trivial
        | cons r rs ih => exact ⟨fun x hx => (by cases hx), ih⟩
    | _ => exact h1.elim
  | [], _ :: _, h => h.elim
  | _ :: _, [], h => h.elim
def toName (r : Nat) (s : Nat) : Nat := if s = 1000 then r else s
theorem back_row {r : Nat} {x : Row} (hr0 : hget σ.heap r = none) (hp0 : 1000 ≤ r) (h1 : refsInL [(1000, x)] x.els) (h2 : cleanL x.els) : Back σ [] [(1000, x)] id (toName r) := by
  have key : ∀ s y, hget [(1000, x)] s = some y → s = 1000 ∧ y = x := fun s y h => by
    simp only [hget] at h
    split at h
    · rename_i e; simp only [Option.some.injEq] at h; exact ⟨e.symm, h.symm⟩
    · cases h
  refine ⟨fun s y h hlt => ?_, fun s y h => by simp [hget] at h, fun s y h _ => ?_, fun s t y z h h' _ => by rw [(key s y h).1, (key t z h').1], fun s y h => ?_⟩
  · have := (key s y h).1; omega
  · rw [(key s y h).1]; exact ⟨hr0, hp0⟩
  · rw [(key s y h).2]; exact ⟨h1, h2⟩
theorem OpT.callRow {c : Call} {f : FuncId} {xo : Operand} {args : List PV} {e k : Nat} {l : List PD} {r : Nat} (ho : o.op = .call c) (hc : c.callee = .value xo) (hx : calleeV (σ.eval xo) = some (f, [])) (hcal : callable P f = true)
    (hf : RowFn P G f args e k l) (ha : argsOk σ.heap (evalL σ c.args.toList) args) (hd : dstOk N o.dst) (hr0 : hget σ.heap r = none) (hp0 : 1000 ≤ r)
    (hK : K (({ σ with heap := hput σ.heap r { e, k, els := dl l } } : St).put o.dst (.slc r 0 l.length))) : OpT P G ro N o σ K := by
  refine OpT.callG (H := []) (g := id) (gc := none) ho hc hx hcal hf (hand_nil σ) (.inl rfl) (by rw [List.append_nil]; exact handsOk_of_args ha) hd ?_
  rintro p H' g' ⟨rfl, rfl⟩
  refine ⟨toName r, back_row hr0 hp0 (by simp only [dl_refs]) (by simp only [dl_clean]), by simp only [clean], by simp [refsIn, hget], ?_⟩
  simp only [hmerge, Row.ren, dl_ren, PV.ren, toName, if_true, ghBack]
  exact hK
theorem OpX.callRow {K : Foot → St → Prop} {c : Call} {f : FuncId} {args : List PV} {e k : Nat} {l : List PD} (r : Nat) (ho : o.op = .call c) (hc : c.callee = .value (.func f)) (hcal : callable P f = true)
    (hf : RowFn P G f args e k l) (ha : argsOk σ.heap (evalL σ c.args.toList) args) (hd : dstOk N o.dst) (hr0 : hget σ.heap r = none) (hp0 : 1000 ≤ r) (hx : exE xs (dstEff o.dst (.slc r 0 l.length) ++ [(.h r, .r (some { e, k, els := dl l }))]))
    (hK : K (some (.h r :: (tmpKeys (opnds o.op) ++ rowKeys σ (opnds o.op)), dstKeys o.dst ++ [.h r])) (({ σ with heap := hput σ.heap r { e, k, els := dl l } } : St).put o.dst (.slc r 0 l.length))) : OpX P G ro N xs o σ K := by
  refine ⟨_, _, ?_, hK⟩
  refine ⟨dstEff o.dst (.slc r 0 l.length) ++ [(.h r, .r (some { e, k, els := dl l }))], fun k hk => ?_, hx, fun σ' hd' hs _ => ?_, look_row _ _ _ _ _, St.put_rest _ _ _⟩
  · have := ekeys_dst o.dst (.slc r 0 l.length)
    simp only [ekeys, List.map_append, List.map_cons, List.map_nil] at hk this
    rw [this] at hk; exact hk
  · have h1 := eval_agree (σ := σ) (σ' := σ') (l := opnds o.op) fun k hk => hs k (List.mem_cons_of_mem _ (List.mem_append_left _ hk))
    have h2 := rows_agree (σ := σ) (σ' := σ') (l := opnds o.op) fun k hk => hs k (List.mem_cons_of_mem _ (List.mem_append_right _ hk))
    have h3 : hget σ'.heap r = none := by
      have := hs (.h r) (List.mem_cons_self ..)
      simp only [St.look, Cont.r.injEq] at this
      rw [this, hr0]
    rw [ho] at h1 h2
    refine OpT.callRow (r := r) ho hc rfl hcal hf ?_ hd h3 hp0 ⟨by rw [St.put_rest]; exact hd', look_row _ _ _ _ _⟩
    rw [evalL_agree (l := c.args.toList) h1]
    refine argsOk_agree (fun p hp r hr => ?_) ha
    obtain ⟨x, h3, rfl⟩ := evalL_mem hp
    exact h2 x h3 r hr
theorem srcV_agree {k : Nat} {H H' : Heap} {p : PV} (h : ∀ r ∈ valRows p, hget H' r = hget H r) : srcV k H' p = srcV k H p := by
  cases p with
  | slc r lo n => simp only [srcV]; rw [h r (by simp [valRows])]
  | d x => cases x <;> rfl
  | b x => cases x <;> rfl
  | _ => rfl
def mayLead : Exc → Nat → List Nat → Prop
  | [], _, _ => False
  | (r, S) :: l, s, T => (r = s ∧ S = T) ∨ mayLead l s T
theorem exOk_lead {xs : Exc} {r : Nat} {S : List Nat} {k : Key} {c : Cont} (h : mayLead xs r S) (hx : exOk xs k c) : k.among S = true ∨ c.rows.contains r = false := by
  induction xs with
  | nil => exact h.elim
  | cons x l ih =>
    obtain ⟨r', S'⟩ := x
    rcases h with ⟨rfl, rfl⟩ | h
    · exact hx.1
    · exact ih h hx.2
def leadOnly (e : List (Nat × PV)) (r ts : Nat) : List Nat → Prop
  | [] => True
  | t :: l => (t = ts ∨ (rowsOf (eget e t)).contains r = false) ∧ leadOnly e r ts l
theorem leadOnly_get {e : List (Nat × PV)} {r ts : Nat} : ∀ {l : List Nat}, leadOnly e r ts l → ∀ t ∈ l, t = ts ∨ r ∉ rowsOf (eget e t)
  | t0 :: l, h, t, ht => by
    rcases List.mem_cons.1 ht with rfl | ht
    · exact h.1.imp id (fun h => by simpa using h)
    · exact leadOnly_get h.2 t ht
def hkills (r : Nat) : Heap → Heap → Heap
  | [], H => H
  | (s, x) :: l, H => hput (hkills r l H) s { x with els := killL r x.els }
def killEff (r : Nat) : Heap → Eff
  | [] => []
  | (s, x) :: l => (.h s, .r (some { x with els := killL r x.els })) :: killEff r l
def heapKeys : Heap → List Key
  | [] => []
  | (s, _) :: l => .h s :: heapKeys l
def cellsAre (H : Heap) (r : Nat) : Heap → Prop
  | [] => True
  | (s, x) :: l => (hget H s = some x ∧ s ≠ r) ∧ cellsAre H r l
def codesIn (Sh : Heap) : List Nat → Prop
  | [] => True
  | c :: l => (c < 1000000 ∨ (hget Sh (c - 1000000)).isSome = true) ∧ codesIn Sh l
theorem codesIn_get {Sh : Heap} : ∀ {l : List Nat}, codesIn Sh l → ∀ m, m + 1000000 ∈ l → (hget Sh m).isSome = true
  | c :: l, h, m, hm => by
    rcases List.mem_cons.1 hm with e | hm
    · rcases h.1 with h1 | h1
      · omega
      · rw [← e] at h1; simpa using h1
    · exact codesIn_get h.2 m hm
theorem cellsAre_get {H : Heap} {r : Nat} : ∀ {l : Heap}, cellsAre H r l → ∀ s x, hget l s = some x → hget H s = some x ∧ s ≠ r
  | [], _, s, x, h => by simp [hget] at h
  | (t, y) :: l, h, s, x, hx => by
    simp only [hget] at hx
    split at hx
    · rename_i e; subst e; cases hx; exact h.1
    · exact cellsAre_get h.2 s x hx
theorem hget_hkills (r : Nat) : ∀ (l H : Heap) (s : Nat), hget (hkills r l H) s = match hget l s with | some x => some { x with els := killL r x.els } | none => hget H s
  | [], H, s => rfl
  | (t, x) :: l, H, s => by
    simp only [hkills, hget_hput, hget]
    split
    · rfl
    · exact hget_hkills r l H s
theorem efind_killEff (r : Nat) : ∀ (l : Heap) (s : Nat), efind (killEff r l) (.h s) = (hget l s).map fun x => Cont.r (some { x with els := killL r x.els })
  | [], s => rfl
  | (t, x) :: l, s => by
    simp only [killEff, efind, Key.h.injEq, hget]
    split
    · rfl
    · exact efind_killEff r l s
theorem efind_killEff_t (r : Nat) : ∀ (l : Heap) (t : Nat), efind (killEff r l) (.t t) = none
  | [], s => rfl
  | (t, x) :: l, s => by simp only [killEff, efind, reduceCtorEq, if_false]; exact efind_killEff_t r l s
theorem ekeys_killEff (r : Nat) : ∀ l : Heap, ekeys (killEff r l) = heapKeys l
  | [] => rfl
  | (s, x) :: l => by have := ekeys_killEff r l; simp only [ekeys] at this; simp [killEff, ekeys, heapKeys, this]
theorem heapKeys_mem : ∀ {l : Heap} {s : Nat} {x : Row}, hget l s = some x → Key.h s ∈ heapKeys l
  | [], s, x, h => by simp [hget] at h
  | (t, y) :: l, s, x, h => by
    simp only [hget] at h
    split at h
    · rename_i e; subst e; simp [heapKeys]
    · simp [heapKeys, heapKeys_mem h]
theorem notin_nil {r : Nat} {l : List Nat} (h : l = []) : r ∉ l := by rw [h]; simp
theorem OpX.appH {K : Foot → St → Prop} {c : Call} {t e ts d r n : Nat} {xo : Operand} {z : Ty} {row : Row} {L : List PV} {S : List Nat} (Sh : Heap) (ho : o.op = .call c) (hcb : c.callee = .builtin .append) (hct : c.argTypes = #[t, t]) (hca : c.args = #[.tmp ts, xo]) (hdst : o.dst = some d) (hd : d < N)
    (hel : sliceElem P t = some (e, z)) (hz : zeroOk z = true) (hs : eget σ.env ts = .slc r 0 n) (hx : hget σ.heap r = some row) (hL : srcV z.size σ.heap (σ.eval xo) = some L) (hn : row.els.length = n) (hre : row.e = e) (hrk : row.k = z.size) (hp : 1000 ≤ r)
    (h63 : n + L.length ≤ 9223372036854775807) (hbytes : (n + L.length) * z.bytes ≤ 140737488355328) (hS : mayLead xs r S) (hSs : S.contains ts = true) (hSd : S.contains d = true) (hne : d ≠ ts) (hlead : leadOnly σ.env r ts S) (hcod : codesIn Sh S) (hcel : cellsAre σ.heap r Sh) (hrm : r ∉ rowsOfL row.els) (hLm : r ∉ rowsOfL L) (hdm : (rowsOfL σ.dfr).contains r = false)
    (hxe : exE xs ((.t d, .v (.slc r 0 (n + L.length))) :: (.h r, .r (some { row with els := row.els ++ L })) :: (.t ts, .v .any) :: killEff r Sh))
    (hK : K (some (.h r :: (tmpKeys (opnds o.op) ++ rowKeys σ (opnds o.op) ++ (S.map .t ++ heapKeys Sh)), .t d :: .h r :: .t ts :: heapKeys Sh)) ({ σ with env := eput (eput σ.env ts .any) d (.slc r 0 (n + L.length)), heap := hput (hkills r Sh σ.heap) r { row with els := row.els ++ L } } : St)) : OpX P G ro N xs o σ K := by
  have hlook : ∀ σ' : St, ({ σ' with env := eput (eput σ'.env ts .any) d (.slc r 0 (n + L.length)), heap := hput (hkills r Sh σ'.heap) r { row with els := row.els ++ L } } : St).look =
      σ'.look.app ((.t d, .v (.slc r 0 (n + L.length))) :: (.h r, .r (some { row with els := row.els ++ L })) :: (.t ts, .v .any) :: killEff r Sh) := by
    intro σ'
    funext k
    cases k with
    | t m =>
      simp only [St.look, SF.app, efind, Key.t.injEq, eget_eput, reduceCtorEq, if_false, efind_killEff_t]
      by_cases h1 : d = m
      · simp [h1]
      · by_cases h2 : ts = m
        · simp [h1, h2]
        · simp [h1, h2, St.look]
    | h m =>
      simp only [St.look, SF.app, efind, Key.h.injEq, hget_hput, reduceCtorEq, if_false, efind_killEff, hget_hkills]
      by_cases h1 : r = m
      · simp [h1]
      · simp only [h1, if_false]
        cases hget Sh m <;> simp [St.look]
  refine ⟨_, _, ?_, hK⟩
  refine ⟨(.t d, .v (.slc r 0 (n + L.length))) :: (.h r, .r (some { row with els := row.els ++ L })) :: (.t ts, .v .any) :: killEff r Sh, fun k hk => ?_, hxe, fun σ' hd' hs' hex => ?_, hlook σ, rfl⟩
  · have := ekeys_killEff r Sh
    simp only [ekeys] at hk this
    simp only [List.map_cons, this] at hk
    exact hk
  have hop : opnds o.op = [.tmp ts, xo] := by rw [ho]; simp [opnds, hca]
  have h1 := eval_agree (σ := σ) (σ' := σ') (l := opnds o.op) fun k hk => hs' k (List.mem_cons_of_mem _ (List.mem_append_left _ (List.mem_append_left _ hk)))
  have h2 := rows_agree (σ := σ) (σ' := σ') (l := opnds o.op) fun k hk => hs' k (List.mem_cons_of_mem _ (List.mem_append_left _ (List.mem_append_right _ hk)))
  rw [hop] at h1 h2
  have e1 : σ'.eval (.tmp ts) = .slc r 0 n := (h1 _ (by simp)).trans hs
  have hrow' : ∀ m, Key.h m ∈ (.h r :: heapKeys Sh) → hget σ'.heap m = hget σ.heap m := fun m hm => by
    have := hs' (.h m) (by
      rcases List.mem_cons.1 hm with h | h
      · rw [h]; exact List.mem_cons_self ..
      · exact List.mem_cons_of_mem _ (List.mem_append_right _ (List.mem_append_right _ h)))
    simpa only [St.look, Cont.r.injEq] using this
  have e2 : hget σ'.heap r = some row := (hrow' r (by simp)).trans hx
  have e3 : srcV z.size σ'.heap (σ'.eval xo) = some L := by
    rw [h1 xo (by simp), srcV_agree (h2 xo (by simp))]; exact hL
  obtain ⟨y, hy, hde, he⟩ := sliceElem_parts hel
  obtain ⟨zv, h11, h12, h13⟩ := zeroOk_some hz
  have hcall : o.op = .call { callee := .builtin .append, args := #[.tmp ts, xo], argTypes := #[t, t] } := by
    rw [ho]; cases c; simp only at hcb hct hca; subst hcb; subst hct; subst hca; rfl
  refine OpT.append hcall hy hde he h11 h12 h13 e1 e2 hn hre hrk hp e3 h63 hbytes (by rw [hdst]; exact hd) ?_
  have hdfr : σ'.dfr = σ.dfr := by have := hd'; simp only [St.rest, Prod.mk.injEq] at this; exact this.1
  have hmem : ∀ m, S.contains m = true → m ∈ S := fun m h => by simpa using h
  refine ⟨?_, ?_⟩
  · rw [St.put_rest]
    have : (σ'.grown r row L).rest = σ'.rest := by
      simp only [St.rest, St.grown]
      rw [killL_id σ'.dfr (by rw [hdfr]; simpa using hdm)]
    rw [this]; exact hd'
  · rw [← hlook σ', hdst]
    funext k
    cases k with
    | t m =>
      simp only [St.put, St.look, St.grown, Cont.v.injEq, eget_eput, eget_ekill]
      by_cases h3 : d = m
      · simp [h3]
      · simp only [h3, if_false]
        by_cases h4 : ts = m
        · subst h4
          simp only [if_true]
          have : eget σ'.env ts = .slc r 0 n := e1
          rw [this]; simp only [PV.kill, if_true]
        · simp only [h4, if_false]
          refine kill_id _ ?_
          rcases exOk_lead hS (hex (.t m)) with h5 | h5
          · have h6 := hmem m (by simpa [Key.among] using h5)
            have h7 : eget σ'.env m = eget σ.env m := by
              have := hs' (.t m) (List.mem_cons_of_mem _ (List.mem_append_right _ (List.mem_append_left _ (List.mem_map.2 ⟨m, h6, rfl⟩))))
              simpa only [St.look, Cont.v.injEq] using this
            rw [h7]
            exact (leadOnly_get hlead m h6).resolve_left (Ne.symm h4)
          · simpa [St.look, Cont.rows] using h5
    | h m =>
      simp only [St.put, St.look, St.grown, Cont.r.injEq, hget_hput, hget_hkill, hget_hkills]
      by_cases h3 : r = m
      · simp only [h3, if_true, Option.some.injEq, Row.mk.injEq, true_and]
        rw [killL_id row.els (h3 ▸ hrm), killL_id L (h3 ▸ hLm)]
      · simp only [h3, if_false, if_neg (Ne.symm h3)]
        cases hh : hget Sh m with
        | some x =>
          obtain ⟨h5, _⟩ := cellsAre_get hcel m x hh
          have h6 := (hrow' m (List.mem_cons_of_mem _ (heapKeys_mem hh))).trans h5
          rw [h6]; rfl
        | none =>
          simp only
          cases hh2 : hget σ'.heap m with
          | none => simp
          | some x =>
            have h5 := exOk_lead hS (hex (.h m))
            rcases h5 with h5 | h5
            · have := codesIn_get hcod m (hmem _ (by simpa [Key.among] using h5))
              rw [hh] at this; cases this
            · simp only [St.look, hh2, Cont.rows] at h5
              have h6 : r ∉ rowsOfL x.els := by simpa using h5
              simp [killL_id _ h6]
theorem OpX.app {K : Foot → St → Prop} {c : Call} {t e ts d r n : Nat} {xo : Operand} {z : Ty} {row : Row} {L : List PV} {S : List Nat} (ho : o.op = .call c) (hcb : c.callee = .builtin .append) (hct : c.argTypes = #[t, t]) (hca : c.args = #[.tmp ts, xo]) (hdst : o.dst = some d) (hd : d < N)
    (hel : sliceElem P t = some (e, z)) (hz : zeroOk z = true) (hs : eget σ.env ts = .slc r 0 n) (hx : hget σ.heap r = some row) (hL : srcV z.size σ.heap (σ.eval xo) = some L) (hn : row.els.length = n) (hre : row.e = e) (hrk : row.k = z.size) (hp : 1000 ≤ r)
    (h63 : n + L.length ≤ 9223372036854775807) (hbytes : (n + L.length) * z.bytes ≤ 140737488355328) (hS : mayLead xs r S) (hSs : S.contains ts = true) (hSd : S.contains d = true) (hne : d ≠ ts) (hlead : leadOnly σ.env r ts S) (hrm : rowsOfL row.els = []) (hLm : rowsOfL L = []) (hdm : (rowsOfL σ.dfr).contains r = false)
    (hxe : exE xs [(.t d, .v (.slc r 0 (n + L.length))), (.h r, .r (some { row with els := row.els ++ L })), (.t ts, .v .any)])
    (hK : K (some (.h r :: (tmpKeys (opnds o.op) ++ rowKeys σ (opnds o.op) ++ S.map .t), [.t d, .h r, .t ts])) ({ σ with env := eput (eput σ.env ts .any) d (.slc r 0 (n + L.length)), heap := hput σ.heap r { row with els := row.els ++ L } } : St))
    (hcod : codesIn [] S := by (simp only [codesIn]; decide)) : OpX P G ro N xs o σ K :=
  OpX.appH [] ho hcb hct hca hdst hd hel hz hs hx hL hn hre hrk hp h63 hbytes hS hSs hSd hne hlead hcod trivial (notin_nil hrm) (notin_nil hLm) hdm hxe (by simpa [heapKeys, hkills] using hK)
end
end Go.Pv

namespace Go.Pv
attribute [go_sem] PV.ren renL Row.ren clean cleanL hmerge ghBack handOk handsOk apartFrom calleeV cleanEnv cleanHeap envL envLGo envFrz leadOnly mayLead toName frzT frzTL St.rest
end Go.Pv

namespace Go.Pv
def handL (Hc : Heap) (g : Nat → Nat) (H0 : Heap) : Heap → Prop
  | [] => True
  | (r, x) :: l => (r < 1000 ∧ hget Hc (g r) = some (x.ren g) ∧ refsInL H0 x.els) ∧ handL Hc g H0 l
def injOne (g : Nat → Nat) (r : Nat) : Heap → Prop
  | [] => True
  | (s, _) :: l => (g r = g s → r = s) ∧ injOne g r l
def injL (g : Nat → Nat) : Heap → Prop
  | [] => True
  | (r, _) :: l => injOne g r l ∧ injL g l
def backL (Hc H : Heap) (g ρ : Nat → Nat) (H0 : Heap) : Heap → Prop
  | [] => True
  | (r, x) :: l => ((if r < 1000 then match hget H r with
      | some y => ρ r = g r ∧ x.k = y.k ∧ (x.k = 0 ∨ x.els.length = y.els.length)
      | none => False
    else hget Hc (ρ r) = none ∧ 1000 ≤ ρ r) ∧ refsInL H0 x.els ∧ cleanL x.els) ∧ backL Hc H g ρ H0 l
def allIn (H' : Heap) : Heap → Prop
  | [] => True
  | (r, _) :: l => (hget H' r).isSome = true ∧ allIn H' l
def renOf : List (Nat × Nat) → Nat → Nat
  | [], s => s
  | (a, b) :: l, s => if a = s then b else renOf l s
theorem hget_mem : ∀ {H : Heap} {r : Nat} {x : Row}, hget H r = some x → (r, x) ∈ H
  | (s, y) :: l, r, x, h => by
    simp only [hget] at h
    split at h
    · rename_i e; subst e; simp only [Option.some.injEq] at h; subst h; simp
    · exact List.mem_cons_of_mem _ (hget_mem h)
theorem handL_get {Hc : Heap} {g : Nat → Nat} {H0 : Heap} : ∀ {l : Heap}, handL Hc g H0 l → ∀ r x, (r, x) ∈ l → r < 1000 ∧ hget Hc (g r) = some (x.ren g) ∧ refsInL H0 x.els
  | (s, y) :: l, h, r, x, hm => by
    rcases List.mem_cons.1 hm with hm | hm
    · cases hm; exact h.1
    · exact handL_get h.2 r x hm
theorem injOne_get {g : Nat → Nat} {r : Nat} : ∀ {l : Heap}, injOne g r l → ∀ s x, (s, x) ∈ l → g r = g s → r = s
  | (t, y) :: l, h, s, x, hm => by
    rcases List.mem_cons.1 hm with hm | hm
    · cases hm; exact h.1
    · exact injOne_get h.2 s x hm
theorem injL_get {g : Nat → Nat} : ∀ {l : Heap}, injL g l → ∀ r s x y, (r, x) ∈ l → (s, y) ∈ l → g r = g s → r = s
  | (t, z) :: l, h, r, s, x, y, hr, hs, he => by
    rcases List.mem_cons.1 hr with hr | hr <;> rcases List.mem_cons.1 hs with hs | hs
    · cases hr; cases hs; rfl
    · cases hr; exact injOne_get h.1 s y hs he
    · cases hs; exact (injOne_get h.1 r x hr he.symm).symm
    · exact injL_get h.2 r s x y hr hs he
theorem Hand.of {σ : St} {H : Heap} {g : Nat → Nat} (h : handL σ.heap g H H) (hi : injL g H) : Hand σ H g :=
  ⟨fun r x hx => (handL_get h r x (hget_mem hx)).1, fun r x hx => (handL_get h r x (hget_mem hx)).2.1, fun r s x y hx hy => injL_get hi r s x y (hget_mem hx) (hget_mem hy), fun r x hx => (handL_get h r x (hget_mem hx)).2.2⟩
theorem backL_get {Hc H : Heap} {g ρ : Nat → Nat} {H0 : Heap} : ∀ {l : Heap}, backL Hc H g ρ H0 l → ∀ r x, (r, x) ∈ l → (if r < 1000 then match hget H r with
      | some y => ρ r = g r ∧ x.k = y.k ∧ (x.k = 0 ∨ x.els.length = y.els.length)
      | none => False
    else hget Hc (ρ r) = none ∧ 1000 ≤ ρ r) ∧ refsInL H0 x.els ∧ cleanL x.els
  | (s, y) :: l, h, r, x, hm => by
    rcases List.mem_cons.1 hm with hm | hm
    · cases hm; exact h.1
    · exact backL_get h.2 r x hm
theorem allIn_get {H' : Heap} : ∀ {l : Heap}, allIn H' l → ∀ r x, (r, x) ∈ l → (hget H' r).isSome = true
  | (s, y) :: l, h, r, x, hm => by
    rcases List.mem_cons.1 hm with hm | hm
    · cases hm; exact h.1
    · exact allIn_get h.2 r x hm
theorem Back.of {σ : St} {H H' : Heap} {g ρ : Nat → Nat} (h : backL σ.heap H g ρ H' H') (ha : allIn H' H) (hi : injL ρ H') : Back σ H H' g ρ := by
  refine ⟨fun r x hx hlt => ?_, fun r x hx => Option.isSome_iff_exists.1 (allIn_get ha r x (hget_mem hx)), fun r x hx hge => ?_, fun r s x y hx hy => injL_get hi r s x y (hget_mem hx) (hget_mem hy), fun r x hx => (backL_get h r x (hget_mem hx)).2⟩
  · have := (backL_get h r x (hget_mem hx)).1
    rw [if_pos hlt] at this
    split at this
    · rename_i y hy; exact ⟨y, hy, this.1, this.2.1, fun hk => this.2.2.resolve_left (by have := this.2.1; omega)⟩
    · exact this.elim
  · have := (backL_get h r x (hget_mem hx)).1
    rw [if_neg (by omega)] at this
    exact this
attribute [go_sem] handL injOne injL backL allIn renOf
end Go.Pv

