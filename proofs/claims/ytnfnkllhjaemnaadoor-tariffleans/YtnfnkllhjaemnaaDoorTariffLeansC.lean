/- TariffLeans answers true for every input, as its tied card says: under the conditions of the card (Rows, Cards, Tie), no more. Part 3 of 7: by one AI agent and its programs; no person has read it. -/
import Derived.Test.YtnfnkllhjaemnaaDoorTariffLeansA
import Derived.Test.YtnfnkllhjaemnaaDoorTariffLeansB
import Derived.Laws.StructEq
import Derived.ChangeKeysEq
import Derived.Lib.MinMax
import Derived.Sort.Grow
import Derived.Lib.SlicesCompact
import Derived.WideKeyRuns
import Derived.MapKept
import Derived.Lib.Builder
import Derived.Lib.UnsafeStr
import Derived.Lib.AppendStr
import Derived.Lib.FrozenHead
import Derived.Laws.Externs
set_option linter.unusedSimpArgs false
set_option linter.unusedVariables false
set_option linter.all false

namespace Go.Pv
def wjE (P : Program) (t : TypeId) (xs : List PD) (off : Nat) : Option PD :=
 match waA P t (.d (.agg xs)) off with
 | some (.d x) => some x
 | _ => none
def wkG (P : Program) (E : TypeId → PD → PD → Option Bool) (xs ys : List PD) : List Field → Option Bool
 | [] => some true
 | f :: fs =>
  if (f.name == "_") = true then wkG P E xs ys fs
  else match wjE P f.type xs f.offset, wjE P f.type ys f.offset with
   | some a, some b => match E f.type a b, wkG P E xs ys fs with
    | some r, some q => some (r && q)
    | _, _ => none
   | _, _ => none
def wlZ (P : Program) (E : TypeId → PD → PD → Option Bool) (e : TypeId) (c : Nat) (xs ys : List PD) : List Nat → Option Bool
 | [] => some true
 | i :: is => match wjE P e xs (i * c), wjE P e ys (i * c) with
  | some a, some b => match E e a b, wlZ P E e c xs ys is with
   | some r, some q => some (r && q)
   | _, _ => none
  | _, _ => none
def eqD (P : Program) : Nat → TypeId → PD → PD → Option Bool
 | 0, _, _, _ => none
 | d + 1, t, x, y => match wad P t with
  | none => none
  | some z => match z.desc with
   | .int _ => match x, y with
    | .int k a, .int k' b => if k = k' then some (a == b) else none
    | _, _ => none
   | .bool => match x, y with
    | .bool a, .bool b => some (a == b)
    | _, _ => none
   | .string => match x, y with
    | .str a, .str b => some (a == b)
    | _, _ => none
   | .struct fs => match x, y with
    | .agg xs, .agg ys => if P.stoodInHeld t = false then wkG P (eqD P d) xs ys fs.toList else none
    | _, _ => none
   | .array n e => match x, y with
    | .agg xs, .agg ys => match wad P e with
     | some q => wlZ P (eqD P d) e q.size xs ys (List.range n)
     | none => none
    | _, _ => none
   | _ => none
theorem wsV (P : Program) (d : Nat) (t : TypeId) (x y : PD) : eqD P (d + 1) t x y = match wad P t with
  | none => none
  | some z => match z.desc with
   | .int _ => match x, y with
    | .int k a, .int k' b => if k = k' then some (a == b) else none
    | _, _ => none
   | .bool => match x, y with
    | .bool a, .bool b => some (a == b)
    | _, _ => none
   | .string => match x, y with
    | .str a, .str b => some (a == b)
    | _, _ => none
   | .struct fs => match x, y with
    | .agg xs, .agg ys => if P.stoodInHeld t = false then wkG P (eqD P d) xs ys fs.toList else none
    | _, _ => none
   | .array n e => match x, y with
    | .agg xs, .agg ys => match wad P e with
     | some q => wlZ P (eqD P d) e q.size xs ys (List.range n)
     | none => none
    | _, _ => none
   | _ => none := rfl
def eqV (P : Program) (t : TypeId) (p q : PV) : Option Bool :=
 match p, q with
 | .d (.agg a), .d (.agg b) => if P.eqGuardType P.depth t = false then eqD P 8 t (.agg a) (.agg b) else none
 | _, _ => none
def woW (lo : Bool) : List PV → Option PV
 | [.d (.int k a), .d (.int k' b)] => if k = k' then some (.d (.int k (if lo then min a b else max a b))) else none
 | _ => none
def xOp (P : Program) (σ : St) (op : Op) : Option PV :=
 match op with
 | .binOp .eql t x y _ => (eqV P t (σ.eval x) (σ.eval y)).map fun b => .d (.bool b)
 | .binOp .neq t x y _ => (eqV P t (σ.eval x) (σ.eval y)).map fun b => .d (.bool (!b))
 | .call c => match c.callee with
  | .builtin .max => woW false (war σ c.args.toList)
  | .builtin .min => woW true (war σ c.args.toList)
  | _ => none
 | _ => none
section
variable {P : Program} {G : List (Nat × PD)} {ro : Option Nat} {N : Nat} {σ τ : St} {w w' : World} {X : Nat → Prop} {φ φ' : Nm} {H H' : wac} {o : Oper} {K : St → Prop} {ops : Array Oper} {B : Base P} {a a' : Act}
theorem wjF {t : TypeId} {xs : List PD} {off : Nat} {x : PD} {vs : Array Value} (h : wjE P t xs off = some x) (hv : RepV w X φ H (.agg vs) (.d (.agg xs))) :
  ∃ z, (part t vs off).run P w = .ok z w ∧ RepV w X φ H z (.d x) := by
 unfold wjE at h
 split at h <;> simp only [Option.some.injEq, reduceCtorEq] at h
 rename_i y hy; subst h
 obtain ⟨vs', z, h1, h2, h3⟩ := wjW (P := P) rfl hy hv
 cases h1
 exact ⟨z, h2, h3⟩
theorem wsq {E : TypeId → PD → PD → Option Bool} {n : Nat} (hE : ∀ t x y r, E t x y = some r → ∀ u v, RepV w X φ H u (.d x) → RepV w X φ H v (.d y) → (Op.equalIn n t u v).run P w = .ok r w) {xs ys : List PD} {us vs : Array Value} (hu : RepV w X φ H (.agg us) (.d (.agg xs))) (hv : RepV w X φ H (.agg vs) (.d (.agg ys))) :
  ∀ {fs : List Field} {r : Bool}, wkG P E xs ys fs = some r → (Op.eqFields n us vs fs).run P w = .ok r w := by
 intro fs
 induction fs with
 | nil =>
  intro r h
  simp only [wkG, Option.some.injEq] at h
  subst h; rfl
 | cons f fs ih =>
  intro r h
  simp only [wkG] at h
  split at h
  ·rename_i hn
   have hn : f.name = "_" := by simpa using hn
   simp only [Op.eqFields, hn, ne_eq, not_true_eq_false, if_false]
   exact ih h
  ·rename_i hn
   have hn : f.name ≠ "_" := by simpa using hn
   split at h <;> try (simp at h; done)
   rename_i p q hp hq
   split at h <;> simp only [Option.some.injEq, reduceCtorEq] at h
   rename_i r1 r2 h1 h2; subst h
   obtain ⟨u, e1, e2⟩ := wjF (P := P) hp hu
   obtain ⟨v, e3, e4⟩ := wjF (P := P) hq hv
   have e5 := hE _ _ _ _ h1 _ _ e2 e4
   simp only [Op.eqFields, hn, ne_eq, not_false_eq_true, if_true, Sem.run_bind, e1, e3, e5, Result.andThen_ok]
   cases r1
   ·simp
   ·simp only [Bool.not_true, Bool.false_eq_true, if_false, Bool.true_and]
    exact ih h2
theorem wsr {E : TypeId → PD → PD → Option Bool} {n : Nat} (hE : ∀ t x y r, E t x y = some r → ∀ u v, RepV w X φ H u (.d x) → RepV w X φ H v (.d y) → (Op.equalIn n t u v).run P w = .ok r w) {e : TypeId} {c : Nat} {xs ys : List PD} {us vs : Array Value} (hu : RepV w X φ H (.agg us) (.d (.agg xs))) (hv : RepV w X φ H (.agg vs) (.d (.agg ys))) :
  ∀ {is : List Nat} {r : Bool}, wlZ P E e c xs ys is = some r → (Op.eqItems n e c us vs is).run P w = .ok r w := by
 intro is
 induction is with
 | nil =>
  intro r h
  simp only [wlZ, Option.some.injEq] at h
  subst h; simp [Op.eqItems]
 | cons i is ih =>
  intro r h
  simp only [wlZ] at h
  split at h <;> try (simp at h; done)
  rename_i p q hp hq
  split at h <;> simp only [Option.some.injEq, reduceCtorEq] at h
  rename_i r1 r2 h1 h2; subst h
  obtain ⟨u, e1, e2⟩ := wjF (P := P) hp hu
  obtain ⟨v, e3, e4⟩ := wjF (P := P) hq hv
  have e5 := hE _ _ _ _ h1 _ _ e2 e4
  simp only [Op.eqItems, Sem.run_bind, e1, e3, e5, Result.andThen_ok]
  cases r1
  ·simp
  ·simp only [Bool.not_true, Bool.false_eq_true, if_false, Bool.true_and]
   exact ih h2
theorem wsB (m : Nat) : ∀ (d : Nat) (t : TypeId) (x y : PD) (r : Bool), eqD P d t x y = some r → ∀ u v, RepV w X φ H u (.d x) → RepV w X φ H v (.d y) → (Op.equalIn (m + d) t u v).run P w = .ok r w := by
 intro d
 induction d with
 | zero => intro t x y r h; simp [eqD] at h
 | succ d ih =>
  intro t x y r h u v hu hv
  unfold eqD at h
  split at h <;> try (simp at h; done)
  rename_i z hz
  have hun := (waZ hz).1
  rw [show m + (d + 1) = (m + d) + 1 from rfl]
  split at h <;> try (simp at h; done)
  ·rename_i k hd
   split at h <;> try (simp at h; done)
   split at h <;> simp only [Option.some.injEq, reduceCtorEq] at h
   rename_i hk; subst hk; subst h
   rw [wbr hu, wbr hv]
   exact run_equalIn_int w (m + d) t _ k _ _ (by rw [hun, hd])
  ·rename_i hd
   split at h <;> simp only [Option.some.injEq, reduceCtorEq] at h
   subst h
   rw [wen hu, wen hv]
   exact run_equalIn_bool w (m + d) t _ _ (by rw [hun, hd])
  ·rename_i hd
   split at h <;> simp only [Option.some.injEq, reduceCtorEq] at h
   subst h
   rw [wgO hu, wgO hv, beq_toListBytes]
   exact run_equalIn_string w (m + d) t _ _ (by rw [hun, hd])
  ·rename_i fs hd
   split at h <;> try (simp at h; done)
   rename_i xs ys
   split at h <;> try (simp at h; done)
   rename_i hst
   obtain ⟨us, rfl, _⟩ := wa3 (waL hu)
   obtain ⟨vs, rfl, _⟩ := wa3 (waL hv)
   have hf : P.fieldsOf t = fs := by simp only [Program.fieldsOf, hun, hd]
   rw [run_equalIn_struct w (m + d) t us vs (by rw [hf, hun, hd]) hst, hf]
   exact wsq ih hu hv h
  ·rename_i n e hd
   split at h <;> try (simp at h; done)
   rename_i xs ys
   split at h <;> try (simp at h; done)
   rename_i q hq
   obtain ⟨us, rfl, _⟩ := wa3 (waL hu)
   obtain ⟨vs, rfl, _⟩ := wa3 (waL hv)
   obtain ⟨i, hi, hs⟩ : ∃ i, P.info? e = some i ∧ i.size = q.size := by obtain ⟨_, i, h1, h2, _⟩ := waZ hq; exact ⟨i, h1, h2⟩
   rw [run_equalIn_array w (m + d) us vs (by rw [hun, hd]) hi, show P.cellsOf e = q.size by simp [Program.cellsOf, hi, hs]]
   exact wsr ih hu hv h
theorem wre {t : TypeId} {p q : PV} {r : Bool} (h : eqV P t p q = some r) {u v : Value} (hu : RepV w X φ H u p) (hv : RepV w X φ H v q) :
  ∃ us vs, u = .agg us ∧ v = .agg vs ∧ P.eqGuardType P.depth t = false ∧ (Op.equalIn 10000 t u v).run P w = .ok r w := by
 unfold eqV at h
 split at h <;> try (simp at h; done)
 split at h <;> try (simp at h; done)
 rename_i hg
 have := wsB 9992 8 _ _ _ _ h _ _ hu hv
 obtain ⟨us, rfl, _⟩ := wa3 (waL hu)
 obtain ⟨vs, rfl, _⟩ := wa3 (waL hv)
 exact ⟨us, vs, rfl, rfl, hg, this⟩
theorem wqC (hr : Rep G B N σ a w φ) {c : Call} {p q : PV} (h : war σ c.args.toList = [p, q]) : ∃ x y, c.args = #[x, y] ∧ σ.eval x = p ∧ σ.eval y = q := by
 rcases hc : c.args with ⟨l⟩
 rw [hc] at h
 match l, h with
 | [x, y], h => simp [war] at h; exact ⟨x, y, rfl, h.1, h.2⟩
 | [], h => simp [war] at h
 | [_], h => simp [war] at h
 | _ :: _ :: _ :: _, h => simp [war] at h
theorem wsC (hr : Rep G B N σ a w φ) {o : Oper} {v : PV} (h : xOp P σ o.op = some v) (ro : Option Nat) : ∃ u, (o.semAt ro a.eval).run P w = .ok (.value u) w ∧ RepV w B.X φ σ.heap u v := by
 rw [Oper.semAt_eq _ _ _ (fun c hc => by rw [hc] at h; simp [xOp] at h)]
 unfold execOp
 unfold xOp at h
 split at h <;> (try (simp at h; done)) <;> rename_i ho <;> simp only [ho]
 ·rename_i t x y t2
  simp only [Option.map_eq_some_iff] at h
  obtain ⟨b, hb, rfl⟩ := h
  obtain ⟨us, vs, hu, hv, hg, he⟩ := wre (P := P) hb (hr.eval x) (hr.eval y)
  refine ⟨.bool b, wbz ?_, .d (.bool _)⟩
  rw [Sem.run_bind, hu, hv, run_eqGuard_agg w .eql t x y us vs hg]
  rw [hu, hv] at he
  show (binOp .eql t (.agg us) (.agg vs)).run P w = _
  rw [run_eql_struct, he]; rfl
 ·rename_i t x y t2
  simp only [Option.map_eq_some_iff] at h
  obtain ⟨b, hb, rfl⟩ := h
  obtain ⟨us, vs, hu, hv, hg, he⟩ := wre (P := P) hb (hr.eval x) (hr.eval y)
  refine ⟨.bool (!b), wbz ?_, .d (.bool _)⟩
  rw [Sem.run_bind, hu, hv, run_eqGuard_agg w .neq t x y us vs hg]
  rw [hu, hv] at he
  show (binOp .neq t (.agg us) (.agg vs)).run P w = _
  rw [run_neq_struct, he]; rfl
 ·rename_i c
  have key : ∀ {lo : Bool} {v : PV}, woW lo (war σ c.args.toList) = some v → ∃ k n m, v = .d (.int k (if lo then min n m else max n m)) ∧ ∃ x y, c.args = #[x, y] ∧ a.eval x = .int k n ∧ a.eval y = .int k m := by
   intro lo v h
   unfold woW at h
   split at h <;> try (simp at h; done)
   rename_i k n k' m he
   split at h <;> simp only [Option.some.injEq, reduceCtorEq] at h
   rename_i hk; subst hk; subst h
   obtain ⟨x, y, h1, h2, h3⟩ := wqC hr he
   have hx := hr.eval x; have hy := hr.eval y
   rw [h2] at hx; rw [h3] at hy
   exact ⟨k, n, m, rfl, x, y, h1, wbr hx, wbr hy⟩
  split at h <;> try (simp at h; done)
  ·rename_i hc
   obtain ⟨k, n, m, rfl, x, y, h1, h2, h3⟩ := key h
   refine ⟨.int k (max n m), ?_, .d (.int _ _)⟩
   simp only [resolve, hc, h1, Sem.run_bind, Sem.run_pure, Result.andThen, invoke, builtin, List.map_toArray, List.map_cons, List.map_nil, h2, h3, Go.Lib.run_max_ints]
  ·rename_i hc
   obtain ⟨k, n, m, rfl, x, y, h1, h2, h3⟩ := key h
   refine ⟨.int k (min n m), ?_, .d (.int _ _)⟩
   simp only [resolve, hc, h1, Sem.run_bind, Sem.run_pure, Result.andThen, invoke, builtin, List.map_toArray, List.map_cons, List.map_nil, h2, h3, Go.Lib.run_min_ints]
theorem OpT.x {v : PV} (h : xOp P σ o.op = some v) (hd : wan N o.dst) (hK : K (σ.put o.dst v)) : OpT P G ro N o σ K := by
 intro B hro a w φ hr next Q hn
 obtain ⟨u, h1, h2⟩ := wsC hr h ro
 exact waI h1 (hn _ _ _ φ hK (hr.put hd h2))
theorem wrf {σ' : St} {op : Op} (h : ∀ x ∈ waq op, σ'.eval x = σ.eval x) : xOp P σ' op = xOp P σ op := by
 cases op <;> try rfl
 case binOp bop t x y z =>
  simp only [waq, List.mem_cons, List.not_mem_nil, or_false, forall_eq_or_imp, forall_eq] at h
  cases bop <;> try rfl
  all_goals simp only [xOp, h.1, h.2]
 case call c =>
  simp only [xOp]
  have : war σ' c.args.toList = war σ c.args.toList := wbO fun x hx => h x (by
   simp only [waq]
   cases c.callee <;> simp_all)
  rw [this]
theorem OpD.x {xs : Exc} {v : PV} (h : xOp P σ o.op = some v) (hd : wan N o.dst) (hx : exE xs (waJ o.dst v)) :
  OpD P G ro N xs o σ (some (waF (waq o.op), waN o.dst)) (σ.put o.dst v) := by
 refine ⟨waJ o.dst v, fun k hk => by rw [wci] at hk; exact hk, hx, fun σ' hd' hs _ => ?_, wbd _ _ _, St.put_rest _ _ _⟩
 have h1 := wcp (σ := σ) (σ' := σ') (l := waq o.op) fun k hk => hs k hk
 exact OpT.x (by rw [wrf h1]; exact h) hd ⟨by rw [St.put_rest]; exact hd', wbd _ _ _⟩
def wld (P : Program) (N : Nat) (o : Oper) (σ : St) (K : St → Prop) : Prop :=
 wan N o.dst ∧ match xOp P σ o.op with
  | some v => K (σ.put o.dst v)
  | none => False
def wqD (P : Program) (N : Nat) (ds : List (Option Tmp)) (o : Oper) (σ : St) (K : St → Prop) : Prop :=
 match o.guard with
 | none => wld P N o σ K
 | some (j, want) => match wet σ ds j with
  | some b => (b = want → wld P N o σ K) ∧ (b ≠ want → wan N o.dst ∧ K (σ.put o.dst (.tuple [])))
  | none => wfq σ ds j = true ∧ wan N o.dst ∧ K (σ.put o.dst (.tuple []))
theorem OpT.vcX (h : wld P N o σ K) : OpT P G ro N o σ K := by
 obtain ⟨hd, h⟩ := h
 split at h
 ·rename_i v hv; exact OpT.x hv hd h
 ·exact h.elim
theorem AOps.consX {rest : List Oper} {Q : St → Prop} (h : ∀ K : St → Prop, (∀ σ, AOps P G ro N ops rest σ Q → K σ) → wqD P N (wbg ops) o σ K) : AOps P G ro N ops (o :: rest) σ Q := by
 have h := h _ (fun _ h => h)
 unfold wqD at h
 split at h
 ·rename_i hg; exact AOps.step hg (OpT.vcX h)
 ·rename_i j want hg
  split at h
  ·rename_i b hb
   by_cases hbw : b = want
   ·exact AOps.guardedU hg hb (fun hb => OpT.vcX (h.1 hb)) (h.1 hbw).1 (fun hb => (h.2 hb).2)
   ·exact AOps.guardedU hg hb (fun hb => OpT.vcX (h.1 hb)) (h.2 hbw).1 (fun hb => (h.2 hb).2)
  ·exact AOps.skip hg h.1 h.2.1 h.2.2
variable {xs : Exc}
theorem wms (dst : Option Tmp) : exE xs (waJ dst (.tuple [])) := by
 cases dst with
 | none => trivial
 | some d =>
  refine ⟨?_, trivial⟩
  induction xs with
  | nil => trivial
  | cons x l ih => obtain ⟨r, S⟩ := x; exact ⟨.inr (by simp [Cont.rows, rowsOf, rowsOfL]), ih⟩
theorem DStep.noU {j : Nat} {want b : Bool} (hg : o.guard = some (j, want)) (hb : wet σ (wbg ops) j = some b) (hne : b ≠ want) (hd : wan N o.dst) :
  DStep P G ro N xs ops o σ (some (wfo (wbg ops) o.guard, waN o.dst)) (σ.put o.dst (.tuple [])) := by
 refine ⟨waJ o.dst (.tuple []), fun k hk => by rw [wci] at hk; exact hk, wms _, fun s' hs _ B hro a w hR next Q hn => ?_, wbd _ _ _, St.put_rest _ _ _⟩
 obtain ⟨σ', φ, hd', hl, hr⟩ := hR
 have hgv : wet σ' (wbg ops) j = some b := by
  rw [win (σ := σ) (want := want) fun k hk => by rw [hl]; exact hs k (by rw [hg]; exact hk)]; exact hb
 have hy := wiX hr hgv
 have : (some b == some want) = false := by simp [hne]
 simp only [Region.wanted, hg, hy, this, Bool.false_eq_true, if_false]
 exact ⟨fun _ _ => trivial, hn _ _ ⟨σ'.put o.dst (.tuple []), φ, by rw [St.put_rest]; exact hd', by rw [wbd, hl], hr.put hd whI⟩⟩
theorem wqE {σ' : St} {ds : List (Option Tmp)} {j : Nat} {want : Bool} (h : ∀ k ∈ wfo ds (some (j, want)), σ'.look k = σ.look k) : wfq σ' ds j = wfq σ ds j := by
 unfold wfq
 simp only [wfo] at h
 cases hds : ds[j]? with
 | none => rfl
 | some od =>
  cases od with
  | none => rfl
  | some d =>
   rw [hds] at h
   have := h (.t d) (by simp)
   simp only [St.look, Cont.v.injEq] at this
   simp only [this]
theorem DStep.skipU {j : Nat} {want : Bool} (hg : o.guard = some (j, want)) (hb : wfq σ (wbg ops) j = true) (hd : wan N o.dst) :
  DStep P G ro N xs ops o σ (some (wfo (wbg ops) o.guard, waN o.dst)) (σ.put o.dst (.tuple [])) := by
 refine ⟨waJ o.dst (.tuple []), fun k hk => by rw [wci] at hk; exact hk, wms _, fun s' hs _ B hro a w hR next Q hn => ?_, wbd _ _ _, St.put_rest _ _ _⟩
 obtain ⟨σ', φ, hd', hl, hr⟩ := hR
 have hgv : wfq σ' (wbg ops) j = true := by
  rw [wqE (σ := σ) (want := want) fun k hk => by rw [hl]; exact hs k (by rw [hg]; exact hk)]; exact hb
 have hy := woS hr hgv want
 simp only [Region.wanted, hg, hy, Bool.false_eq_true, if_false]
 exact ⟨fun _ _ => trivial, hn _ _ ⟨σ'.put o.dst (.tuple []), φ, by rw [St.put_rest]; exact hd', by rw [wbd, hl], hr.put hd whI⟩⟩
def weF (N : Nat) (ds : List (Option Tmp)) (o : Oper) (σ : St) (S : (Foot → St → Prop) → Prop) (K : Foot → St → Prop) : Prop :=
 match o.guard with
 | none => S K
 | some (j, want) => match wet σ ds j with
  | some b => (b = want → S (fun f σ1 => K (f.plus (wfo ds o.guard)) σ1)) ∧ (b ≠ want → wan N o.dst ∧ K (some (wfo ds o.guard, waN o.dst)) (σ.put o.dst (.tuple [])))
  | none => wfq σ ds j = true ∧ wan N o.dst ∧ K (some (wfo ds o.guard, waN o.dst)) (σ.put o.dst (.tuple []))
theorem DOps.guard {rest : List Oper} {acc : List Foot} {Q : St → Prop} {S : (Foot → St → Prop) → Prop} (hS : ∀ K, S K → OpX P G ro N xs o σ K)
  (h : ∀ K : Foot → St → Prop, (∀ f σ1, DOps P G ro N xs ops Q rest (acc ++ [f]) σ1 → K f σ1) → weF N (wbg ops) o σ S K) :
  DOps P G ro N xs ops Q (o :: rest) acc σ := by
 have h := h (fun f σ1 => DOps P G ro N xs ops Q rest (acc ++ [f]) σ1) (fun _ _ h => h)
 unfold weF at h
 split at h
 ·rename_i hg
  obtain ⟨f, σ1, h1, h2⟩ := hS _ h
  exact .step (DStep.plain hg h1) h2
 ·rename_i j want hg
  split at h
  ·rename_i b hb
   by_cases hbw : b = want
   ·subst hbw
    obtain ⟨f, σ1, h1, h2⟩ := hS _ (h.1 rfl)
    exact .step (DStep.yes hg hb h1) h2
   ·obtain ⟨h1, h2⟩ := h.2 hbw
    exact .step (DStep.noU hg hb hbw h1) h2
  ·exact .step (DStep.skipU hg h.1 h.2.1) h.2.2
theorem DOps.consU {rest : List Oper} {acc : List Foot} {Q : St → Prop} (h : ∀ K : Foot → St → Prop, (∀ f σ1, DOps P G ro N xs ops Q rest (acc ++ [f]) σ1 → K f σ1) → weF N (wbg ops) o σ (whW P G ro N xs o σ) K) :
  DOps P G ro N xs ops Q (o :: rest) acc σ := DOps.guard (fun _ => OpX.vc) h
theorem OpX.vcL {K : Foot → St → Prop} (h : wi3 P N xs o σ K) : OpX P G ro N xs o σ K := by
 obtain ⟨hd, h⟩ := h
 split at h
 ·rename_i v hv; exact ⟨_, _, OpD.lit hv hd h.1, h.2⟩
 ·exact h.elim
def wle (P : Program) (N : Nat) (xs : Exc) (o : Oper) (σ : St) (K : Foot → St → Prop) : Prop :=
 wan N o.dst ∧ match xOp P σ o.op with
 | some v => exE xs (waJ o.dst v) ∧ K (some (waF (waq o.op), waN o.dst)) (σ.put o.dst v)
 | none => False
theorem OpX.vcX {K : Foot → St → Prop} (h : wle P N xs o σ K) : OpX P G ro N xs o σ K := by
 obtain ⟨hd, h⟩ := h
 split at h
 ·rename_i v hv; exact ⟨_, _, OpD.x hv hd h.1, h.2⟩
 ·exact h.elim
theorem DOps.consLU {rest : List Oper} {acc : List Foot} {Q : St → Prop} (h : ∀ K : Foot → St → Prop, (∀ f σ1, DOps P G ro N xs ops Q rest (acc ++ [f]) σ1 → K f σ1) → weF N (wbg ops) o σ (wi3 P N xs o σ) K) :
  DOps P G ro N xs ops Q (o :: rest) acc σ := DOps.guard (fun _ => OpX.vcL) h
theorem DOps.consX {rest : List Oper} {acc : List Foot} {Q : St → Prop} (h : ∀ K : Foot → St → Prop, (∀ f σ1, DOps P G ro N xs ops Q rest (acc ++ [f]) σ1 → K f σ1) → weF N (wbg ops) o σ (wle P N xs o σ) K) :
  DOps P G ro N xs ops Q (o :: rest) acc σ := DOps.guard (fun _ => OpX.vcX) h
theorem DOps.consC {rest : List Oper} {acc : List Foot} {Q : St → Prop} (h : ∀ K : Foot → St → Prop, (∀ f σ1, DOps P G ro N xs ops Q rest (acc ++ [f]) σ1 → K f σ1) → weF N (wbg ops) o σ (OpX P G ro N xs o σ) K) :
  DOps P G ro N xs ops Q (o :: rest) acc σ := DOps.guard (fun _ h => h) h
def wfG (P : Program) (G : List (Nat × PD)) (ro : Option Nat) (N : Nat) (ds : List (Option Tmp)) (o : Oper) (σ : St) (K : St → Prop) : Prop :=
 match o.guard with
 | none => OpT P G ro N o σ K
 | some (j, want) => match wet σ ds j with
  | some b => (b = want → OpT P G ro N o σ K) ∧ (b ≠ want → wan N o.dst ∧ K (σ.put o.dst (.tuple [])))
  | none => wfq σ ds j = true ∧ wan N o.dst ∧ K (σ.put o.dst (.tuple []))
theorem AOps.consC {rest : List Oper} {Q : St → Prop} (hd : wan N o.dst) (h : ∀ K : St → Prop, (∀ σ, AOps P G ro N ops rest σ Q → K σ) → wfG P G ro N (wbg ops) o σ K) : AOps P G ro N ops (o :: rest) σ Q := by
 have h := h _ (fun _ h => h)
 unfold wfG at h
 split at h
 ·rename_i hg; exact AOps.step hg h
 ·rename_i j want hg
  split at h
  ·rename_i b hb
   exact AOps.guardedU hg hb h.1 hd (fun hb => (h.2 hb).2)
  ·exact AOps.skip hg h.1 h.2.1 h.2.2
theorem OpT.callV {c : Call} {xo : Operand} {f : FuncId} {args : List PV} {res : PV} {K : St → Prop} (ho : o.op = .call c) (hc : c.callee = .value xo) (hx : wcr (σ.eval xo) = some (f, [])) (hcal : wa1 P f = true)
  (hf : PureFn P G f args res) (ha : wdF σ.heap (war σ c.args.toList) args) (hd : wan N o.dst) (hK : K (σ.put o.dst res)) (hres : dOnly res) (hcl : clean res) (hrf : refsIn [] res) (hren : res.ren id = res) : OpT P G ro N o σ K := by
 refine OpT.callG (g := id) (gc := none) ho hc hx hcal hf (wjx σ) (.inl rfl) (wgs (by simpa using ha)) hd ?_
 rintro p H' g' ⟨rfl, rfl⟩
 refine ⟨id, ⟨fun r x' h => by simp [waa] at h, fun r x h => by simp [waa] at h, fun r x' h => by simp [waa] at h, fun r s x y h => by simp [waa] at h, fun r x h => by simp [waa] at h⟩, hcl, hrf, ?_⟩
 rw [hren]
 exact hK
end
attribute [go_sem] xOp eqV wsV wkG wlZ wjE woW wld wqD weF wle wfG whW wcr
end Go.Pv

namespace Go.Pv
section
variable {P : Program} {G : List (Nat × PD)} {N : Nat} {σ : St}
end
attribute [go_sem] whX wgd
@[go_sem high] theorem lenV_lst {α : Type} (e : TypeId) (k : Nat) (f : α → PD) (l : List α) : wiB (.slice e) (.d (wgw k (wab f l))) = some (l.length : Int) := by
 cases l with
 | nil => rfl
 | cons x l => simp [wgw, wab, wiB]
@[go_sem high] theorem nilEq_lst {α : Type} (e : TypeId) (k : Nat) (f : α → PD) (l : List α) : waD (.slice e) (.d (wgw k (wab f l))) (.d .nilslice) = some l.isEmpty := by
 cases l with
 | nil => rfl
 | cons x l => simp [wgw, wab, waD, wah]
@[go_sem high] theorem binV_lst {α : Type} (P : Program) (t : TypeId) (k : Nat) (f : α → PD) (l : List α) : wbI P .eql t (.d (wgw k (wab f l))) (.d .nilslice) = (wad P t).bind fun z => (waD z.desc (.d (wgw k (wab f l))) (.d .nilslice)).map fun r => .d (.bool r) := by
 cases l <;> rfl
@[go_sem high] theorem binV_lst' {α : Type} (P : Program) (t : TypeId) (k : Nat) (f : α → PD) (l : List α) : wbI P .neq t (.d (wgw k (wab f l))) (.d .nilslice) = (wad P t).bind fun z => (waD z.desc (.d (wgw k (wab f l))) (.d .nilslice)).map fun r => .d (.bool (!r)) := by
 cases l <;> rfl
@[go_sem high] theorem pvCells_lst {α : Type} (k : Nat) (f : α → PD) (l : List α) : waz (.d (wgw k (wab f l))) = some [.d (wgw k (wab f l))] := by
 cases l <;> rfl
@[go_sem high] theorem elemLoad_lst {α : Type} (P : Program) (t : TypeId) (k : Nat) (f : α → PD) (l : List α) (off : Nat) : waA P t (.d (wgw k (wab f l))) off = match wad P t with
  | none => none
  | some y => if waS y.desc = true then none else if off = 0 then some (.d (wgw k (wab f l))) else none := by
 unfold waA
 cases wad P t with
 | none => rfl
 | some y => cases l <;> rfl
theorem FnG.less {P : Program} {G : List (Nat × PD)} {f : FuncId} {args : List PV} {H : wac} {g : Gh} {R R2 : PV → wac → Gh → Prop} (h : FnG P G f args H g R)
  (hl : ∀ p H' g', R p H' g' → ∃ H2, wc6 H2 H' ∧ wch H2 H2 ∧ refsIn H2 p ∧ R2 p H2 g') : FnG P G f args H g R2 := by
 intro B φ vs h0 h1 h2 h3
 refine (h B φ vs h0 h1 h2 h3).mono ?_
 rintro e w' ⟨v, p, H', g', φ', he, hR, hv, hs⟩
 obtain ⟨H2, h4, h5, h6, h7⟩ := hl p H' g' hR
 exact ⟨v, p, H2, g', φ', he, h7, hv.less (wbF h4) h6, hs.less (wbF h4) (weE h5)⟩
end Go.Pv

namespace Go.Pv
def sn (c i : Nat) : Nat := 1000000 + 16 * i + c
def wb1 (c : Nat) : Nat → List (Option Row) → wac
 | _, [] => []
 | i, none :: M => wb1 c (i + 1) M
 | i, some y :: M => (sn c i, y) :: wb1 c (i + 1) M
def waB (c : Nat) (M : List (Option Row)) (l : wac) : wac := wb1 c 0 M ++ l
def wcD : wac → Prop
 | [] => True
 | (r, _) :: l => r < 1000000 ∧ wcD l
theorem wb5 : ∀ {l : wac}, wcD l → ∀ r, 1000000 ≤ r → waa l r = none
 | [], _, r, _ => rfl
 | (s, x) :: l, h, r, hr => by
  simp only [waa]
  rw [if_neg (by have := h.1; omega)]
  exact wb5 h.2 r hr
theorem wd2 (D l : wac) (r : Nat) : waa (D ++ l) r = match waa D r with | some x => some x | none => waa l r := by
 induction D with
 | nil => rfl
 | cons x D ih =>
  obtain ⟨s, y⟩ := x
  simp only [List.cons_append, waa]
  split
  ·rfl
  ·exact ih
theorem wfH {c : Nat} {r : Nat} (hr : r < 1000000) : ∀ (M : List (Option Row)) (i : Nat), waa (wb1 c i M) r = none
 | [], _ => rfl
 | none :: M, i => wfH hr M (i + 1)
 | some y :: M, i => by
  simp only [wb1, waa]
  rw [if_neg (by unfold sn; omega)]
  exact wfH hr M (i + 1)
theorem wfI {c : Nat} : ∀ (M : List (Option Row)) (i j : Nat), waa (wb1 c i M) (sn c j) = if i ≤ j then (M[j - i]?).join else none
 | [], i, j => by simp [wb1, waa]
 | none :: M, i, j => by
  simp only [wb1]
  rw [wfI M (i + 1) j]
  by_cases h : i ≤ j
  ·rw [if_pos h]
   by_cases h2 : i = j
   ·subst h2; rw [if_neg (by omega)]; simp
   ·rw [if_pos (by omega), show j - i = (j - (i + 1)) + 1 by omega, List.getElem?_cons_succ]
  ·rw [if_neg h, if_neg (by omega)]
 | some y :: M, i, j => by
  simp only [wb1, waa]
  by_cases h2 : i = j
  ·subst h2; simp
  ·rw [if_neg (by unfold sn; omega), wfI M (i + 1) j]
   by_cases h : i ≤ j
   ·rw [if_pos h, if_pos (by omega), show j - i = (j - (i + 1)) + 1 by omega, List.getElem?_cons_succ]
   ·rw [if_neg h, if_neg (by omega)]
theorem wdJ {c : Nat} {r : Nat} {y : Row} : ∀ (M : List (Option Row)) (i : Nat), waa (wb1 c i M) r = some y → ∃ j, r = sn c j ∧ (M[j - i]?).join = some y ∧ i ≤ j
 | [], i, h => by simp [wb1, waa] at h
 | none :: M, i, h => by
  obtain ⟨j, h1, h2, h3⟩ := wdJ M (i + 1) h
  refine ⟨j, h1, ?_, by omega⟩
  rw [show j - i = (j - (i + 1)) + 1 by omega, List.getElem?_cons_succ]; exact h2
 | some y' :: M, i, h => by
  simp only [wb1, waa] at h
  split at h
  ·rename_i e; exact ⟨i, e.symm, by simpa using h, Nat.le_refl _⟩
  ·obtain ⟨j, h1, h2, h3⟩ := wdJ M (i + 1) h
   refine ⟨j, h1, ?_, by omega⟩
   rw [show j - i = (j - (i + 1)) + 1 by omega, List.getElem?_cons_succ]; exact h2
theorem wbe {c : Nat} {M : List (Option Row)} {l : wac} {r : Nat} (hr : r < 1000000) : waa (waB c M l) r = waa l r := by
 simp only [waB, wd2, wfH hr]
theorem wdC {c : Nat} {M : List (Option Row)} {l : wac} (j : Nat) (hl : wcD l) : waa (waB c M l) (sn c j) = (M[j]?).join := by
 simp only [waB, wd2, wfI, Nat.zero_le, if_true, Nat.sub_zero]
 cases (M[j]?).join with
 | some x => rfl
 | none => exact wb5 hl _ (by unfold sn; omega)
theorem wej {c : Nat} {M : List (Option Row)} {l : wac} {r : Nat} {y : Row} (h : waa (waB c M l) r = some y) : (∃ j, r = sn c j ∧ (M[j]?).join = some y) ∨ waa l r = some y := by
 simp only [waB, wd2] at h
 cases hg : waa (wb1 c 0 M) r with
 | some x =>
  rw [hg] at h; cases h
  obtain ⟨j, h1, h2, _⟩ := wdJ M 0 hg
  exact .inl ⟨j, h1, h2⟩
 | none => rw [hg] at h; exact .inr h
theorem dyR {c : Nat} {M : List (Option Row)} {l : wac} {r : Nat} {x : Option Row} (h : waa l r = x) (hr : r < 1000000 := by decide) : waa (waB c M l) r = x := (wbe hr).trans h
theorem dyS {c : Nat} {M : List (Option Row)} {l : wac} {r : Nat} (h : (waa l r).isSome = true) (hr : r < 1000000 := by decide) : (waa (waB c M l) r).isSome = true := by rw [wbe hr]; exact h
theorem wpP {D l : wac} {r : Nat} {x : Row} (h : waa D r = none) : waj (D ++ l) r x = D ++ waj l r x := by
 induction D with
 | nil => rfl
 | cons y D ih =>
  obtain ⟨s, z⟩ := y
  simp only [waa] at h
  split at h
  ·cases h
  ·rename_i hs
   simp only [List.cons_append, waj]
   rw [if_neg hs, ih h]
theorem wrO {c : Nat} {M : List (Option Row)} {l : wac} {r : Nat} {x : Row} (hr : r < 1000000) : waj (waB c M l) r x = waB c M (waj l r x) := wpP (wfH hr M 0)
class DataM (M : List (Option Row)) : Prop where
 data : ∀ y : Row, some y ∈ M → 1 ≤ y.k ∧ ∃ l : List PD, y.els = l.map PV.d
def who {α : Type} (f : Nat → α → PV) : Nat → List α → List PV
 | _, [] => []
 | i, x :: l => f i x :: who f (i + 1) l
def wni {α : Type} (f : Nat → α → PV) (l : List α) : List PV := who f 0 l
theorem wj4 {α : Type} (f : Nat → α → PV) : ∀ (l : List α) (i : Nat), (who f i l).length = l.length
 | [], _ => rfl
 | x :: l, i => by simp [who, wj4 f l]
theorem wmt {α : Type} (f : Nat → α → PV) : ∀ (l : List α) (i j : Nat), (who f i l)[j]? = (l[j]?).map (f (i + j))
 | [], i, j => by simp [who]
 | x :: l, i, 0 => by simp [who]
 | x :: l, i, j + 1 => by
  simp only [who, List.getElem?_cons_succ]
  rw [wmt f l (i + 1) j, show i + 1 + j = i + (j + 1) by omega]
theorem wg9 {α : Type} (f : Nat → α → PV) (l : List α) : (wni f l).length = l.length := wj4 f l 0
theorem whZ {α : Type} (f : Nat → α → PV) (l : List α) (j : Nat) : (wni f l)[j]? = (l[j]?).map (f j) := by
 unfold wni; rw [wmt, Nat.zero_add]
theorem wrg {α : Type} (f : Nat → α → PV) (l : List α) (x : α) : wni f l ++ [f l.length x] = wni f (l ++ [x]) := by
 apply List.ext_getElem?
 intro i
 rw [whZ, List.getElem?_append, List.getElem?_append, wg9, whZ]
 by_cases h : i < l.length
 ·simp [h]
 ·rw [if_neg h, if_neg h]
  by_cases h2 : i = l.length
  ·subst h2; simp
  ·rw [List.getElem?_eq_none (by simp; omega), List.getElem?_eq_none (by simp; omega)]; rfl
end Go.Pv

namespace Go.Pv
class NestF {α : Type} (F : Nat → α → PV) : Prop where
 ren : ∀ ρ r x, (F r x).ren ρ = F (ρ r) x
 rows : ∀ r x s, s ∈ rowsOf (F r x) → s = r
 refs : ∀ H r x, (waa H r).isSome = true → refsIn H (F r x)
 kill : ∀ q r x, r ≠ q → (F r x).kill q = F r x
 clean : ∀ r x, clean (F r x)
 byte : ∀ r x, wa0 (F r x) = false
class NestG {α : Type} (g : α → Row) : Prop where
 data : ∀ x, 1 ≤ (g x).k ∧ ∃ l : List PD, (g x).els = l.map PV.d
def wbp {α : Type} (c : Nat) (F : Nat → α → PV) (L : List α) : List PV := wni (fun i x => F (sn c i) x) L
def waK {α : Type} (g : α → Row) (L : List α) : List (Option Row) := L.map fun x => some (g x)
instance {α : Type} (g : α → Row) [NestG g] (L : List α) : DataM (waK g L) := ⟨fun y hy => by
 simp only [waK, List.mem_map, Option.some.injEq] at hy
 obtain ⟨x, _, rfl⟩ := hy
 exact NestG.data x⟩
instance {α : Type} (g : α → Row) [NestG g] (L : List α) (i : Nat) : DataM ((waK g L).set i none) := ⟨fun y hy => by
 rcases List.mem_or_eq_of_mem_set hy with h | h
 ·exact (inferInstance : DataM (waK g L)).data y h
 ·cases h⟩
theorem wcx {α : Type} (g : α → Row) (L : List α) (j : Nat) : ((waK g L)[j]?).join = (L[j]?).map g := by
 simp only [waK, List.getElem?_map]
 cases L[j]? <;> rfl
theorem wit {α : Type} (g : α → Row) (L : List α) (i j : Nat) : (((waK g L).set i none)[j]?).join = if i = j then none else (L[j]?).map g := by
 rw [List.getElem?_set]
 split
 ·split <;> rfl
 ·exact wcx g L j
theorem wlf {c i r : Nat} (h : r < 1000000) : r ≠ sn c i := by unfold sn; omega
@[go_sem] theorem sn_eq1 {c i r : Nat} (h : r < 1000000) : (r = sn c i) = False := by simp [wlf h]
@[go_sem] theorem sn_eq2 {c i r : Nat} (h : r < 1000000) : (sn c i = r) = False := by simp [Ne.symm (wlf (c := c) (i := i) h)]
attribute [go_sem] wbe wrO
theorem wjG {D l : wac} (h : ∀ x ∈ D, 1000000 ≤ x.1) : wcL (D ++ l) = wcL l := by
 induction D with
 | nil => rfl
 | cons x D ih =>
  obtain ⟨s, y⟩ := x
  simp only [List.cons_append, wcL]
  rw [if_pos (h (s, y) (List.mem_cons_self ..)), ih fun x hx => h x (List.mem_cons_of_mem _ hx)]
@[go_sem] theorem freshLow_dyn {c : Nat} {M : List (Option Row)} {l : wac} : wcL (waB c M l) = wcL l := wjG (by
 have : ∀ (M : List (Option Row)) (i : Nat), ∀ x ∈ wb1 c i M, 1000000 ≤ x.1 := fun M => by
  induction M with
  | nil => intro i x hx; simp [wb1] at hx
  | cons o M ih =>
   intro i x hx
   cases o with
   | none => exact ih (i + 1) x hx
   | some y =>
    rcases List.mem_cons.1 hx with rfl | hx
    ·show 1000000 ≤ sn c i; unfold sn; omega
    ·exact ih (i + 1) x hx
 exact this M 0)
theorem woX (r : Nat) (D l : wac) : weA r (D ++ l) = weA r D ++ weA r l := by
 induction D with
 | nil => rfl
 | cons x D ih =>
  obtain ⟨s, y⟩ := x
  simp only [List.cons_append, weA]
  split
  ·exact ih
  ·rw [ih]; rfl
theorem wiG {c r : Nat} (hr : r < 1000000) : ∀ (M : List (Option Row)) (i : Nat), (∀ y : Row, some y ∈ M → 1 ≤ y.k ∧ ∃ l : List PD, y.els = l.map PV.d) → weA r (wb1 c i M) = wb1 c i M
 | [], i, _ => rfl
 | none :: M, i, h => wiG hr M (i + 1) fun y hy => h y (List.mem_cons_of_mem _ hy)
 | some y :: M, i, h => by
  simp only [wb1, weA]
  rw [if_neg (Ne.symm (wlf hr)), wiG hr M (i + 1) fun y hy => h y (List.mem_cons_of_mem _ hy)]
  obtain ⟨_, l, hl⟩ := h y (List.mem_cons_self ..)
  have : killL r y.els = y.els := by rw [hl]; exact dl_kill r l
  rw [this]
@[go_sem] theorem hkill_dyn {c r : Nat} {M : List (Option Row)} [hM : DataM M] {l : wac} (hr : r < 1000000) : weA r (waB c M l) = waB c M (weA r l) := by
 simp only [waB, woX, wiG hr M 0 hM.data]
theorem woh {D l h : wac} (h1 : wc6 D h) (h2 : wc6 l h) : wc6 (D ++ l) h := by
 induction D with
 | nil => exact h2
 | cons x D ih => obtain ⟨s, y⟩ := x; exact ⟨h1.1, ih h1.2⟩
theorem waQ {c : Nat} {M M' : List (Option Row)} {l l2 : wac} (e : M = M') (h : wc6 l (waB c M' l2)) : wc6 (waB c M l) (waB c M' l2) := by
 subst e
 refine woh ?_ h
 have : ∀ (N : List (Option Row)) (i : Nat), (∀ j, i ≤ j → (N[j - i]?).join = (M[j]?).join) → wc6 (wb1 c i N) (waB c M l2) := fun N => by
  induction N with
  | nil => exact fun i _ => trivial
  | cons o N ih =>
   intro i hN
   have ih' := ih (i + 1) fun j hj => by
    have := hN j (by omega)
    rw [show j - i = (j - (i + 1)) + 1 by omega, List.getElem?_cons_succ] at this; exact this
   cases o with
   | none => exact ih'
   | some y =>
    refine ⟨?_, ih'⟩
    have h1 := hN i (Nat.le_refl _)
    simp at h1
    simp only [waB, wd2, wfI, Nat.zero_le, if_true, Nat.sub_zero, ← h1]
 exact this M 0 fun j _ => rfl
theorem wmu {H0 D l : wac} (h1 : wch H0 D) (h2 : wch H0 l) : wch H0 (D ++ l) := by
 induction D with
 | nil => exact h2
 | cons x D ih => obtain ⟨s, y⟩ := x; exact ⟨h1.1, ih h1.2⟩
theorem waE {c : Nat} {M : List (Option Row)} [hM : DataM M] {H0 l : wac} (h : wch H0 l) : wch H0 (waB c M l) := by
 refine wmu ?_ h
 have : ∀ (N : List (Option Row)) (i : Nat), (∀ y : Row, some y ∈ N → 1 ≤ y.k ∧ ∃ l : List PD, y.els = l.map PV.d) → wch H0 (wb1 c i N) := fun N => by
  induction N with
  | nil => exact fun i _ => trivial
  | cons o N ih =>
   intro i hN
   have ih' := ih (i + 1) fun y hy => hN y (List.mem_cons_of_mem _ hy)
   cases o with
   | none => exact ih'
   | some y =>
    refine ⟨?_, ih'⟩
    obtain ⟨_, l, hl⟩ := hN y (List.mem_cons_self ..)
    show refsInL H0 y.els
    rw [hl, wil]; trivial
 exact this M 0 hM.data
theorem wkH {H : wac} : ∀ {l : List PV}, (∀ (i : Nat) (p : PV), l[i]? = some p → refsIn H p) → refsInL H l
 | [], _ => trivial
 | p :: l, h => ⟨h 0 p rfl, wkH fun i q hq => h (i + 1) q (by simpa using hq)⟩
@[go_sem] theorem nelF_length {α : Type} (c : Nat) (F : Nat → α → PV) (L : List α) : (wbp c F L).length = L.length := wg9 _ L
theorem weZ {α : Type} (c : Nat) (F : Nat → α → PV) (L : List α) (i : Nat) : (wbp c F L)[i]? = (L[i]?).map (F (sn c i)) := whZ _ L i
attribute [go_sem] weZ
theorem wrh {α : Type} {c : Nat} {F : Nat → α → PV} {L : List α} {i : Nat} {x : α} (h : L[i]? = some x) (p : PV) : ((wbp c F L).set i p)[i]? = some p := by
 have := (List.getElem?_eq_some_iff.1 h).1
 rw [List.getElem?_set]; simp [nelF_length, this]
theorem waT {α : Type} {c : Nat} {F : Nat → α → PV} {g : α → Row} [NestF F] {L : List α} {l : wac} (hl : wcD l) : refsInL (waB c (waK g L) l) (wbp c F L) := wkH fun i p hp => by
 rw [weZ, Option.map_eq_some_iff] at hp
 obtain ⟨x, h1, rfl⟩ := hp
 exact NestF.refs _ _ _ (by rw [wdC i hl, wcx, h1]; rfl)
theorem wrP {r : Nat} {l : List PV} (h : ∀ (i : Nat) (p : PV), l[i]? = some p → p.kill r = p) : killL r l = l := by
 rw [wbP]
 apply List.ext_getElem?
 intro i
 rw [List.getElem?_map]
 cases hi : l[i]? with
 | none => rfl
 | some p => rw [Option.map_some, h i p hi]
@[go_sem] theorem nelF_kill {α : Type} {c r : Nat} {F : Nat → α → PV} [NestF F] {L : List α} (hr : r < 1000000) : killL r (wbp c F L) = wbp c F L := wrP fun i p hp => by
 rw [weZ, Option.map_eq_some_iff] at hp
 obtain ⟨x, _, rfl⟩ := hp
 exact NestF.kill _ _ _ (Ne.symm (wlf hr))
@[go_sem] theorem nelF_kill_hole {α : Type} {c r i : Nat} {F : Nat → α → PV} [NestF F] {L : List α} {p : PV} (hr : r < 1000000) : killL r ((wbp c F L).set i p) = (wbp c F L).set i (p.kill r) := by
 rw [wbP, List.map_set, ← wbP, nelF_kill hr]
theorem wjH {r : Nat} : ∀ {l : List PV}, (∀ (i : Nat) (p : PV), l[i]? = some p → r ∉ rowsOf p) → r ∉ rowsOfL l
 | [], _ => by simp [rowsOfL]
 | p :: l, h => by
  simp only [rowsOfL, List.mem_append, not_or]
  exact ⟨h 0 p rfl, wjH fun i q hq => h (i + 1) q (by simpa using hq)⟩
theorem wjI {α : Type} {c r : Nat} {F : Nat → α → PV} [NestF F] {L : List α} (hr : r < 1000000) : r ∉ rowsOfL (wbp c F L) := wjH fun i p hp hm => by
 rw [weZ, Option.map_eq_some_iff] at hp
 obtain ⟨x, _, rfl⟩ := hp
 exact wlf hr (NestF.rows _ _ _ hm)
theorem wiu {α : Type} {c r i : Nat} {F : Nat → α → PV} [NestF F] {L : List α} {p : PV} (hr : r < 1000000) (hp : (rowsOf p).contains r = false) : r ∉ rowsOfL ((wbp c F L).set i p) := wjH fun j q hq hm => by
 rw [List.getElem?_set] at hq
 split at hq
 ·split at hq
  ·cases hq; simp at hp; exact hp hm
  ·cases hq
 ·rw [weZ, Option.map_eq_some_iff] at hq
  obtain ⟨x, _, rfl⟩ := hq
  exact wlf hr (NestF.rows _ _ _ hm)
theorem wnO {α : Type} {c r : Nat} {F : Nat → α → PV} [NestF F] {L : List α} (hr : r < 1000000) : (rowsOfL (wbp c F L)).contains r = false := by simpa using wjI hr
theorem wnj (a b : List PV) : rowsOfL (a ++ b) = rowsOfL a ++ rowsOfL b := by
 induction a with
 | nil => rfl
 | cons x a ih => simp only [List.cons_append, rowsOfL, ih, List.append_assoc]
@[go_sem] theorem nelF_app_free {α : Type} {c r : Nat} {F : Nat → α → PV} [NestF F] {L : List α} {b : List PV} (hr : r < 1000000) : (rowsOfL (wbp c F L ++ b)).contains r = (rowsOfL b).contains r := by
 rw [wnj, List.contains_eq_mem, List.contains_eq_mem]
 have h := wjI (c := c) (F := F) (L := L) hr
 simp [h]
theorem wi5 {α : Type} {c r i : Nat} {F : Nat → α → PV} [NestF F] {L : List α} {p : PV} (hr : r < 1000000) (hp : (rowsOf p).contains r = false) : (rowsOfL ((wbp c F L).set i p)).contains r = false := by simpa using wiu hr hp
theorem wmv {α : Type} (g : α → Row) [NestG g] (x : α) (r : Nat) : (rowsOfL (g x).els).contains r = false := by
 obtain ⟨_, l, h⟩ := NestG.data (g := g) x
 rw [h]
 have e : rowsOfL (l.map PV.d) = [] := dl_rows l
 rw [e]; rfl
theorem woi {r : Nat} {S : List Nat} {D l : wac} (h1 : wgr r S D) (h2 : wgr r S l) : wgr r S (D ++ l) := by
 induction D with
 | nil => exact h2
 | cons x D ih => obtain ⟨s, y⟩ := x; exact ⟨h1.1, ih h1.2⟩
theorem wmw {c r : Nat} {S : List Nat} {M : List (Option Row)} [hM : DataM M] {l : wac} (h : wgr r S l) : wgr r S (waB c M l) := by
 refine woi ?_ h
 have : ∀ (N : List (Option Row)) (i : Nat), (∀ y : Row, some y ∈ N → 1 ≤ y.k ∧ ∃ l : List PD, y.els = l.map PV.d) → wgr r S (wb1 c i N) := fun N => by
  induction N with
  | nil => exact fun i _ => trivial
  | cons o N ih =>
   intro i hN
   have ih' := ih (i + 1) fun y hy => hN y (List.mem_cons_of_mem _ hy)
   cases o with
   | none => exact ih'
   | some y =>
    refine ⟨.inr ?_, ih'⟩
    obtain ⟨_, l, hl⟩ := hN y (List.mem_cons_self ..)
    have e : rowsOfL y.els = [] := by rw [hl]; exact dl_rows l
    rw [e]; rfl
 exact this M 0 hM.data
end Go.Pv

namespace Go.Pv
def whv (ks : List Nat) (e : List (Nat × PV)) : List (Nat × PV) := match ks with
 | [] => []
 | k :: l => (k, wam e k) :: whv l e
def wha (ks : List Nat) (h : wac) : wac := match ks with
 | [] => []
 | k :: l => match waa h k with
  | some x => (k, x) :: wha l h
  | none => wha l h
theorem wak {α β : Type} {l : List α} {i : Int} {f : α → Option β} {r : β} (h : (idx l i).bind f = some r) : ∃ x, (0 ≤ i ∧ i < l.length ∧ l[i.toNat]? = some x ∧ i.toNat < l.length) ∧ f x = some r :=
 let ⟨x, h1, h2⟩ := bind_some h; ⟨x, wrM h1, h2⟩
section
variable {P : Program} {G : List (Nat × PD)} {ro : Option Nat} {N : Nat} {ops : Array Oper} {σ τ σ' : St} {o : Oper} {rest : List Oper}
theorem pf {f : FuncId} {fn : Func} {c : Code} {args : List PV} {res : PV} {n : Nat} {e0 : List (Nat × PV)} (hf : P.funcs[f]? = some fn) (hn : fn.ntmps = n)
  (h : AWp P G none n c ⟨e0, [], [], none⟩ (Fin P G fn fun p H => ∃ u, frzT H p = some u ∧ leV u res)) (hb : fn.body = some c := by rfl) (hN : args.length ≤ n := by simp)
  (he : wb8 0 args = e0 := by (simp only [wb8, Nat.reduceAdd, Nat.zero_add]; rfl)) : PureFn P G f args res := by
 subst hn he; exact PureFn.intro2 hf hb hN h
theorem Fn.pf {f : FuncId} {fn : Func} {c : Code} {args : List PV} {n : Nat} {e0 : List (Nat × PV)} {R : PV → wac → Prop} (hf : P.funcs[f]? = some fn) (hn : fn.ntmps = n)
  (h : AWp P G none n c ⟨e0, [], [], none⟩ (Fin P G fn R)) (hb : fn.body = some c := by rfl) (hN : args.length ≤ n := by simp)
  (he : wb8 0 args = e0 := by (simp only [wb8, Nat.reduceAdd, Nat.zero_add]; rfl)) : Fn P G f args [] R := by
 subst hn he; exact Fn.intro hf hb hN h
theorem rt {fn : Func} {p u res : PV} (hp : whT P G fn.results.toList σ = some p := by (simp only [go_sem, List.length_append, List.length_set, List.length_replicate, ↓reduceIte]; rfl))
  (hd : σ.dfr = [] := by first | exact True.intro | rfl)
  (hf : frzT σ.heap p = some u := by (simp only [go_sem, wd8, List.take_length, List.length_append, List.length_set, List.length_replicate, ↓reduceIte]; rfl))
  (hl : leV u res := by first | exact leV_refl _ | (simp only [go_sem, leV, leVL, leD, leDL, wd8, leD_refl, leDL_refl, wi4, ↓reduceIte]; done)) :
  Fin P G fn (fun p H => ∃ u, frzT H p = some u ∧ leV u res) .ret σ := ⟨p, hp, hd, u, hf, hl⟩
theorem wjJ {fn : Func} {e k n : Nat} {l : List PD} (hp : whT P G fn.results.toList σ = some (.slc 1000 0 n) := by (simp only [go_sem, ↓reduceIte]; rfl)) (hd : σ.dfr = [] := by first | exact True.intro | rfl) (hn : n = l.length := by (rw [lenc_length]; rfl))
  (hh : σ.heap = [(1000, ⟨e, k, dl l⟩)] := by first | rfl | (simp only [go_sem, wd8, wnL, ↓reduceIte]; done)) : Fin P G fn (fun p H => p = .slc 1000 0 l.length ∧ H = [(1000, ⟨e, k, dl l⟩)]) .ret σ :=
 ⟨_, hp, hd, by rw [hn], hh⟩
theorem sg {id : Nat} {l : List Oper} {y : Code} {Q : Post} (h : ∀ K : St → Prop, (∀ σ, AWp P G ro N y σ Q → K σ) → AOps P G ro N l.toArray l σ K) : AWp P G ro N (.seq (.region id l.toArray false) y) σ Q :=
 AWp.seq fun K hK => AWp.reg (h K hK)
theorem sd {id : Nat} {l : List Oper} {y : Code} {Q : Post} (hm : P.follows .mixedOrders = true) (h : ∀ K : St → Prop, (∀ σ, AWp P G ro N y σ Q → K σ) → DOps P G ro N [] l.toArray K l [] σ) : AWp P G ro N (.seq (.region id l.toArray true) y) σ Q :=
 AWp.seq fun K hK => AWp.draw hm [] trivial (h K hK)
theorem oo {Q : St → Prop} (h2 : AOps P G ro N ops rest σ' Q) (h : ∀ K : St → Prop, K σ' → wlb P G ro N (wbg ops) o σ K := by (intro K k; simp (disch := omega) only [go_sem, ↓reduceIte]; exact k)) : AOps P G ro N ops (o :: rest) σ Q :=
 AOps.consU fun K hK => h K (hK _ h2)
theorem ol {Q : St → Prop} (h2 : AOps P G ro N ops rest σ' Q) (h : ∀ K : St → Prop, K σ' → wos P N (wbg ops) o σ K := by (intro K k; simp (disch := omega) only [go_sem, ↓reduceIte]; exact k)) : AOps P G ro N ops (o :: rest) σ Q :=
 AOps.consL fun K hK => h K (hK _ h2)
theorem dd {xs : Exc} {acc : List Foot} {f : Foot} {Q : St → Prop} (h2 : DOps P G ro N xs ops Q rest (acc ++ [f]) σ') (h : ∀ K : Foot → St → Prop, K f σ' → weF N (wbg ops) o σ (whW P G ro N xs o σ) K := by (intro K k; simp (disch := omega) only [go_sem, ↓reduceIte]; exact k)) : DOps P G ro N xs ops Q (o :: rest) acc σ :=
 DOps.consU fun K hK => h K (hK _ _ h2)
theorem ddl {xs : Exc} {acc : List Foot} {f : Foot} {Q : St → Prop} (h2 : DOps P G ro N xs ops Q rest (acc ++ [f]) σ') (h : ∀ K : Foot → St → Prop, K f σ' → weF N (wbg ops) o σ (wi3 P N xs o σ) K := by (intro K k; simp (disch := omega) only [go_sem, ↓reduceIte]; exact k)) : DOps P G ro N xs ops Q (o :: rest) acc σ :=
 DOps.consLU fun K hK => h K (hK _ _ h2)
theorem ddx {xs : Exc} {acc : List Foot} {f : Foot} {Q : St → Prop} (h2 : DOps P G ro N xs ops Q rest (acc ++ [f]) σ') (h : ∀ K : Foot → St → Prop, K f σ' → weF N (wbg ops) o σ (wle P N xs o σ) K := by (intro K k; simp (disch := omega) only [go_sem, ↓reduceIte]; exact k)) : DOps P G ro N xs ops Q (o :: rest) acc σ :=
 DOps.consX fun K hK => h K (hK _ _ h2)
theorem cl {f : FuncId} {c : Call} {args : List PV} {res : PV} {Q : St → Prop} (hf : PureFn P G f args res) (h2 : AOps P G ro N ops rest σ' Q) (hg : ∀ {K : St → Prop}, OpT P G ro N o σ K → wlb P G ro N (wbg ops) o σ K := by (intro K k; simp (disch := omega) only [go_sem, ↓reduceIte]; exact k))
  (ho : o.op = .call c := by rfl) (hc : c.callee = .value (.func f) := by rfl) (hcal : wa1 P f = true := by kernel_rfl)
  (ha : wdF σ.heap (war σ c.args.toList) args := by (repeat' (first | exact trivial | exact rfl | exact dyR rfl | exact dyS rfl | refine waQ rfl ?_ | refine waE ?_ | exact waT (by repeat' (first | exact trivial | decide | apply And.intro)) | apply And.intro))) (hd : wan N o.dst := by (simp only [go_sem, ↓reduceIte]; done))
  (hp : σ.put o.dst res = σ' := by (simp only [go_sem, ↓reduceIte]; rfl)) (hr : dOnly res := by (simp only [go_sem]; done)) : AOps P G ro N ops (o :: rest) σ Q :=
 AOps.consU fun _ hK => hg (OpT.call ho hc hcal hf ha hd (hp ▸ hK _ h2) hr)
theorem wqF {f : FuncId} {c : Call} {xo : Operand} {args : List PV} {e k : Nat} {l : List PD} {Q : St → Prop} (r : Nat) (hf : RowFn P G f args e k l) (h2 : AOps P G ro N ops rest σ' Q) (hg : ∀ {K : St → Prop}, OpT P G ro N o σ K → wlb P G ro N (wbg ops) o σ K := by (intro K k; simp (disch := omega) only [go_sem, ↓reduceIte]; exact k))
  (ho : o.op = .call c := by rfl) (hc : c.callee = .value xo := by rfl) (hx : wcr (σ.eval xo) = some (f, []) := by rfl) (hcal : wa1 P f = true := by kernel_rfl)
  (ha : wdF σ.heap (war σ c.args.toList) args := by (repeat' (first | exact trivial | exact rfl | exact dyR rfl | exact dyS rfl | refine waQ rfl ?_ | refine waE ?_ | exact waT (by repeat' (first | exact trivial | decide | apply And.intro)) | apply And.intro))) (hd : wan N o.dst := by (simp only [go_sem, ↓reduceIte]; done)) (hr0 : waa σ.heap r = none := by rfl) (hp0 : 1000 ≤ r := by decide)
  (hp : ({ σ with heap := waj σ.heap r { e, k, els := dl l } } : St).put o.dst (.slc r 0 l.length) = σ' := by (simp only [go_sem, ↓reduceIte]; rfl)) : AOps P G ro N ops (o :: rest) σ Q :=
 AOps.consU fun _ hK => hg (OpT.callRow ho hc hx hcal hf ha hd hr0 hp0 (hp ▸ hK _ h2))
theorem clV {f : FuncId} {c : Call} {xo : Operand} {args : List PV} {res : PV} {Q : St → Prop} (hf : PureFn P G f args res) (h2 : AOps P G ro N ops rest σ' Q) (hd : wan N o.dst := by (simp only [go_sem, ↓reduceIte]; done)) (hg : ∀ {K : St → Prop}, OpT P G ro N o σ K → wfG P G ro N (wbg ops) o σ K := by (intro K k; simp (disch := omega) only [go_sem, ↓reduceIte]; exact k))
  (ho : o.op = .call c := by rfl) (hc : c.callee = .value xo := by rfl) (hx : wcr (σ.eval xo) = some (f, []) := by rfl) (hcal : wa1 P f = true := by kernel_rfl)
  (ha : wdF σ.heap (war σ c.args.toList) args := by (repeat' (first | exact trivial | exact rfl | exact dyR rfl | exact dyS rfl | refine waQ rfl ?_ | refine waE ?_ | exact waT (by repeat' (first | exact trivial | decide | apply And.intro)) | apply And.intro)))
  (hp : σ.put o.dst res = σ' := by (simp only [go_sem, ↓reduceIte]; rfl)) (hr : dOnly res := by (simp only [go_sem]; done)) (hcl : clean res := by (simp only [clean, cleanL, and_self]; done)) (hrf : refsIn [] res := by (simp only [go_sem]; done)) (hren : res.ren id = res := by rfl) : AOps P G ro N ops (o :: rest) σ Q :=
 AOps.consC hd fun _ hK => hg (OpT.callV ho hc hx hcal hf ha hd (hp ▸ hK _ h2) hr hcl hrf hren)
theorem clC {f : FuncId} {c : Call} {xo : Operand} {caps args : List PV} {res : PV} {Q : St → Prop} (hf : PureFn P G f args res) (h2 : AOps P G ro N ops rest σ' Q) (hd : wan N o.dst := by (simp only [go_sem, ↓reduceIte]; done)) (hg : ∀ {K : St → Prop}, OpT P G ro N o σ K → wfG P G ro N (wbg ops) o σ K := by (intro K k; simp (disch := omega) only [go_sem, ↓reduceIte]; exact k))
  (ho : o.op = .call c := by rfl) (hc : c.callee = .value xo := by rfl) (hx : wcr (σ.eval xo) = some (f, caps) := by rfl) (hcal : wa1 P f = true := by kernel_rfl)
  (ha : wds σ.heap [] id (war σ c.args.toList ++ caps) args := by (repeat' (first | exact trivial | exact rfl | exact dyR rfl | exact dyS rfl | refine waQ rfl ?_ | refine waE ?_ | exact waT (by repeat' (first | exact trivial | decide | apply And.intro)) | apply And.intro | (simp only [go_sem, ↓reduceIte]; done))))
  (hp : σ.put o.dst res = σ' := by (simp only [go_sem, ↓reduceIte]; rfl)) (hcl : clean res := by (simp only [clean, cleanL, and_self]; done)) (hrf : refsIn [] res := by (simp only [go_sem]; done)) (hren : res.ren id = res := by rfl) : AOps P G ro N ops (o :: rest) σ Q := by
 refine AOps.consC hd fun K hK => hg ?_
 refine OpT.callG (H := []) (g := id) (gc := none) ho hc hx hcal hf (wjx σ) (.inl rfl) ha hd ?_
 rintro p H' g' ⟨rfl, rfl⟩
 refine ⟨id, ⟨fun r x' h => by simp [waa] at h, fun r x h => by simp [waa] at h, fun r x' h => by simp [waa] at h, fun r s x y h => by simp [waa] at h, fun r x h => by simp [waa] at h⟩, hcl, hrf, ?_⟩
 rw [hren]
 exact hp ▸ hK _ h2
theorem dcl {f : FuncId} {c : Call} {args : List PV} {res : PV} {xs : Exc} {acc : List Foot} {ft : Foot} {Q : St → Prop} (hf : PureFn P G f args res) (h2 : DOps P G ro N xs ops Q rest (acc ++ [ft]) σ')
  (ho : o.op = .call c := by rfl) (hc : c.callee = .value (.func f) := by rfl) (hcal : wa1 P f = true := by kernel_rfl)
  (ha : wdF σ.heap (war σ c.args.toList) args := by (repeat' (first | exact trivial | exact rfl | exact dyR rfl | exact dyS rfl | refine waQ rfl ?_ | refine waE ?_ | exact waT (by repeat' (first | exact trivial | decide | apply And.intro)) | apply And.intro))) (hd : wan N o.dst := by (simp only [go_sem, ↓reduceIte]; done))
  (hp : σ.put o.dst res = σ' := by (simp only [go_sem, ↓reduceIte]; rfl)) (hr : dOnly res := by (simp only [go_sem]; done)) (hx : exE xs (waJ o.dst res) := by (simp only [go_sem, or_true, true_or, ↓reduceIte]; done))
  (hg : ∀ (S : (Foot → St → Prop) → Prop) (K : Foot → St → Prop), (∀ K', K' (some (waF (waq o.op) ++ wcS σ (waq o.op), waN o.dst)) σ' → S K') → K ft σ' → weF N (wbg ops) o σ S K := by (intro S K hS k; simp (disch := omega) only [go_sem, ↓reduceIte]; exact hS _ k)) : DOps P G ro N xs ops Q (o :: rest) acc σ :=
 DOps.consC fun _ hK => hg _ _ (fun _ hK' => OpX.call ho hc hcal hf ha hd hr hx (by rw [hp]; exact hK')) (hK _ _ h2)
theorem ct {l l1 l2 : List Oper} {Q : St → Prop} {e0 : List (Nat × PV)} {h0 : wac} (n : Nat) (ks rs : List Nat) (e : List (Nat × PV) → List (Nat × PV))
  (h1 : AOps P G ro N ops l1 σ (fun σ' => Sub G N σ' ⟨e e0, h0, σ.dfr, σ.gh⟩)) (h2 : AOps P G ro N ops l2 ⟨e e0, h0, σ.dfr, σ.gh⟩ Q)
  (he : whv ks σ.env = e0 := by (simp only [whv, wam, ↓reduceIte, Nat.reduceEqDiff]; rfl)) (hh : wha rs σ.heap = h0 := by (simp only [wha, waa, wbe, ↓reduceIte, Nat.reduceEqDiff, Nat.reduceLT]; rfl))
  (hl1 : l.take n = l1 := by (simp only [List.take_succ_cons, List.take_zero]; rfl)) (hl2 : l.drop n = l2 := by (simp only [List.drop_succ_cons, List.drop_zero]; rfl)) : AOps P G ro N ops l σ Q := by
 subst hl1 hl2 he hh; exact AOps.cut n _ h1 h2
theorem sb (h1 : wk4 τ.env σ.env := by (repeat' (first | exact trivial | exact rfl | exact dyR rfl | exact dyS rfl | refine waQ rfl ?_ | refine waE ?_ | exact waT (by repeat' (first | exact trivial | decide | apply And.intro)) | apply And.intro | exact wrN (by (simp only [List.length_append, List.length_set, List.length_replicate, List.length_cons, List.length_nil, Nat.zero_add]; done)))))
  (h2 : wc6 τ.heap σ.heap := by (repeat' (first | exact trivial | exact rfl | exact dyR rfl | exact dyS rfl | refine waQ rfl ?_ | refine waE ?_ | exact waT (by repeat' (first | exact trivial | decide | apply And.intro)) | exact congrArg (fun els => some (Row.mk _ _ els)) (wnK rfl) | (simp only [List.length_append, List.length_set, List.length_replicate, List.length_cons, List.length_nil, Nat.zero_add]; first | exact rfl | exact dyR rfl) | apply And.intro)))
  (h3 : wiY τ.heap τ.env := by (repeat' (first | exact trivial | exact rfl | exact dyR rfl | exact dyS rfl | refine waQ rfl ?_ | refine waE ?_ | exact waT (by repeat' (first | exact trivial | decide | apply And.intro)) | apply And.intro | (simp only [go_sem, ↓reduceIte]; done))))
  (h4 : wch τ.heap τ.heap := by (repeat' (first | exact trivial | exact wfz _ _ | exact rfl | exact dyR rfl | exact dyS rfl | refine waQ rfl ?_ | refine waE ?_ | exact waT (by repeat' (first | exact trivial | decide | apply And.intro)) | apply And.intro | (simp only [go_sem, ↓reduceIte]; done))))
  (h5 : σ.dfr = τ.dfr ∧ refsInL τ.heap τ.dfr ∧ σ.gh = τ.gh := by first | exact ⟨rfl, trivial, rfl⟩ | exact ⟨rfl, (by simp only [go_sem, whu, wcT, ↓reduceIte]), rfl⟩) : Sub G N σ τ := Sub.mk h1 h2 h3 h4 h5
theorem sc (h2 : wc6 τ.heap σ.heap := by (repeat' (first | exact trivial | exact rfl | exact dyR rfl | exact dyS rfl | refine waQ rfl ?_ | refine waE ?_ | exact waT (by repeat' (first | exact trivial | decide | apply And.intro)) | exact congrArg (fun els => some (Row.mk _ _ els)) (wnK rfl) | (simp only [List.length_append, List.length_set, List.length_replicate, List.length_cons, List.length_nil, Nat.zero_add]; first | exact rfl | exact dyR rfl) | apply And.intro))) (h1 : wmq σ.heap τ.heap σ.env τ.env := by (repeat' (first | exact trivial | exact .inl ⟨leV_refl _, by first | exact trivial | exact rfl | (simp only [go_sem, ↓reduceIte]; done)⟩ | exact .inl ⟨woV _ _, trivial⟩ | exact .inr ⟨_, wp4 rfl (by first | rfl | (simp only [List.length_append, List.length_set, List.length_replicate, List.length_cons, List.length_nil, Nat.zero_add]; done)), leV_refl _, wlY rfl⟩ | exact .inr ⟨.dptr _ _ _ _, rfl, leV_refl _, wlX rfl⟩ | exact .inl ⟨wsj (by simp only [List.length_append, List.length_set, List.length_replicate, List.length_cons, List.length_nil, Nat.zero_add]; done), rfl⟩ | exact .inl ⟨by (simp only [leV]; exact wi4 _ _), trivial⟩ | exact .inr ⟨_, by (simp only [go_sem, List.take_length, List.length_append, List.length_set, List.length_replicate, ↓reduceIte]; first | done | rfl), by (first | exact leV_refl _ | (simp only [go_sem, leV, leVL, leD, leDL, wd8, leD_refl, leDL_refl, ↓reduceIte]; done)), by (intro r hr; simp only [go_sem, rowsOf, rowsOfL, List.mem_cons, List.not_mem_nil, or_false, List.append_nil, ↓reduceIte] at hr; first | done | (subst hr; rfl) | (rcases hr with rfl | rfl <;> rfl) | (rcases hr with rfl | rfl | rfl <;> rfl) | (rcases hr with rfl | rfl | rfl | rfl <;> rfl))⟩ | exact .inl ⟨by (simp only [go_sem, leV, leD, leDL, wd8, leD_refl, leDL_refl, wi4, ↓reduceIte]; done), trivial⟩ |
      exact .inr ⟨_, by (simp only [go_sem, List.take_length, List.length_append, List.length_set, List.length_replicate, ↓reduceIte]; first | done | rfl), by (first | exact leV_refl _ | (simp only [go_sem, leV, leVL, leD, leDL, wd8, leD_refl, leDL_refl, ↓reduceIte]; done)), by (intro r hr; simp only [go_sem, rowsOf, rowsOfL, List.mem_cons, List.not_mem_nil, or_false, List.append_nil, ↓reduceIte] at hr; first | done | (subst hr; rfl) | (rcases hr with rfl | rfl <;> rfl) | (rcases hr with rfl | rfl | rfl <;> rfl) | (rcases hr with rfl | rfl | rfl | rfl <;> rfl))⟩ | apply And.intro)))
    (h4 : wch τ.heap τ.heap := by (repeat' (first | exact trivial | exact wfz _ _ | exact rfl | exact dyR rfl | exact dyS rfl | refine waQ rfl ?_ | refine waE ?_ | exact waT (by repeat' (first | exact trivial | decide | apply And.intro)) | apply And.intro | (simp only [go_sem, ↓reduceIte]; done)))) (h5 : σ.dfr = τ.dfr ∧ refsInL τ.heap τ.dfr ∧ σ.gh = τ.gh := by first | exact ⟨rfl, trivial, rfl⟩ | exact ⟨rfl, (by simp only [go_sem, whu, wcT, ↓reduceIte]), rfl⟩) : Sub G N σ τ := Sub.cv h2 h1 h4 h5
theorem cd {α : Type} {c : Operand} {x y : Code} {Q : Post} {b : Bool} {m1 m2 : α} {r : α} (h : cond b m1 m2 = r) (h1 : m1 = r → AWp P G ro N x σ Q) (h2 : m2 = r → AWp P G ro N y σ Q) (hc : σ.eval c = .d (.bool b) := by rfl) : AWp P G ro N (.cond c x y) σ Q :=
 AWp.cond hc (fun hb => h1 (by rw [hb] at h; exact h)) (fun hb => h2 (by rw [hb] at h; exact h))
theorem cdt {c : Operand} {x y : Code} {Q : Post} (h1 : AWp P G ro N x σ Q) (hc : σ.eval c = .d (.bool true) := by rfl) : AWp P G ro N (.cond c x y) σ Q := AWp.cond hc (fun _ => h1) (fun hb => by cases hb)
theorem cdf {c : Operand} {x y : Code} {Q : Post} (h1 : AWp P G ro N y σ Q) (hc : σ.eval c = .d (.bool false) := by rfl) : AWp P G ro N (.cond c x y) σ Q := AWp.cond hc (fun hb => by cases hb) (fun _ => h1)
theorem lp {S X : Type} {c : Code} {Q : Post} (ks rs : List Nat) (e : S → List (Nat × PV) → List (Nat × PV)) (H : S → wac → wac) {e0 : List (Nat × PV)} {h0 : wac} {f : S → Option (S ⊕ X)} {s0 : S} {x : X}
  (hi : iter f s0 = some x) (hs : Sub G N σ ⟨e s0 e0, H s0 h0, σ.dfr, σ.gh⟩)
  (h : ∀ s o, f s = some o → AWp P G ro N c ⟨e s e0, H s h0, σ.dfr, σ.gh⟩ (Post.then (fun σ' => ∃ s', o = .inl s' ∧ Sub G N σ' ⟨e s' e0, H s' h0, σ.dfr, σ.gh⟩) (fun ex σ' => ∃ y, o = .inr y ∧ (y = x → Q ex σ'))))
  (he : whv ks σ.env = e0 := by (simp only [whv, wam, ↓reduceIte, Nat.reduceEqDiff]; rfl)) (hh : wha rs σ.heap = h0 := by (simp only [wha, waa, wbe, ↓reduceIte, Nat.reduceEqDiff, Nat.reduceLT]; rfl)) : AWp P G ro N (.loop c) σ Q := by
 obtain ⟨n, hn⟩ := wis hi
 refine AWp.loopI (fun i : Nat × S => ⟨e i.2 e0, H i.2 h0, σ.dfr, σ.gh⟩) (fun i => wfp f i.1 i.2 = some x) (fun i => i.1) (n, s0) hn hs ?_
 rintro ⟨n, s⟩ hn
 cases n with
 | zero => cases hn
 | succ n =>
  rw [weY] at hn
  obtain ⟨o, h1, h2⟩ := bind_some hn
  refine (h s o h1).mono fun ex σ' hp => ?_
  cases ex with
  | normal => obtain ⟨s', rfl, h4⟩ := hp; exact ⟨(n, s'), h2, Nat.lt_succ_self n, h4⟩
  | _ => obtain ⟨y, rfl, h4⟩ := hp; exact h4 (by simpa using h2)
theorem jm {α ι ρ : Type} {x y : Code} {Q : Post} (ks rs : List Nat) (e : ι → List (Nat × PV) → List (Nat × PV)) (H : ι → wac → wac) {e0 : List (Nat × PV)} {h0 : wac} {m : Option α} {f : α → Option ρ} {r : ρ} (inj : ι → α) (h : m.bind f = some r)
  (h1 : ∀ o, m = some o → f o = some r → AWp P G ro N x σ (Post.then (fun σ' => ∃ i, o = inj i ∧ Sub G N σ' ⟨e i e0, H i h0, σ.dfr, σ.gh⟩) Q)) (h2 : ∀ i, f (inj i) = some r → AWp P G ro N y ⟨e i e0, H i h0, σ.dfr, σ.gh⟩ Q)
  (he : whv ks σ.env = e0 := by (simp only [whv, wam, ↓reduceIte, Nat.reduceEqDiff]; rfl)) (hh : wha rs σ.heap = h0 := by (simp only [wha, waa, wbe, ↓reduceIte, Nat.reduceEqDiff, Nat.reduceLT]; rfl)) : AWp P G ro N (.seq x y) σ Q := by
 obtain ⟨o, h3, h4⟩ := bind_some h
 exact AWp.seqI (fun i => ⟨e i e0, H i h0, σ.dfr, σ.gh⟩) (fun i => o = inj i) (h1 o h3 h4) (fun i hi => h2 i (hi ▸ h4))
theorem jn {α ρ : Type} {x y : Code} {Q : Post} (ks rs : List Nat) (e : α → List (Nat × PV) → List (Nat × PV)) (H : α → wac → wac) {e0 : List (Nat × PV)} {h0 : wac} {m : Option α} {f : α → Option ρ} {r : ρ} (h : m.bind f = some r)
  (h1 : ∀ o, m = some o → AWp P G ro N x σ (Post.then (fun σ' => Sub G N σ' ⟨e o e0, H o h0, σ.dfr, σ.gh⟩) Q)) (h2 : ∀ o, f o = some r → AWp P G ro N y ⟨e o e0, H o h0, σ.dfr, σ.gh⟩ Q)
  (he : whv ks σ.env = e0 := by (simp only [whv, wam, ↓reduceIte, Nat.reduceEqDiff]; rfl)) (hh : wha rs σ.heap = h0 := by (simp only [wha, waa, wbe, ↓reduceIte, Nat.reduceEqDiff, Nat.reduceLT]; rfl)) : AWp P G ro N (.seq x y) σ Q :=
 jm ks rs e H id h (fun o h3 _ => (h1 o h3).mono fun ex σ' hp => by cases ex <;> first | exact ⟨o, rfl, hp⟩ | exact hp) h2 he hh
theorem ln {S X : Type} {T : S → St} {p : S} {q : S ⊕ X} (h : some (.inl p) = some q) (hs : Sub G N σ (T p)) : ∃ s', q = .inl s' ∧ Sub G N σ (T s') := ⟨p, (Option.some.inj h).symm, hs⟩
theorem lx {S X : Type} {y x : X} {q : S ⊕ X} {R : Prop} (h : some (.inr y) = some q) (hq : y = x → R) : ∃ y', q = .inr y' ∧ (y' = x → R) := ⟨y, (Option.some.inj h).symm, hq⟩
theorem bt (b : Bool) : b = true ∨ b = false := Bool.eq_false_or_eq_true b
end
end Go.Pv

namespace Go.Pv
open Go.Sort
theorem wnP (w : World) (os : Array Obj) {b : Nat} (h : b < w.heap.size) : (grow w os).heap[b]? = w.heap[b]? := by
 simp [grow, Array.getElem?_append, h]
theorem wiH {α : Type} [Inhabited α] (enc : α → Value) (w : World) (blk off : Nat) (d : Array α) (b : Nat) : (putRow enc w blk off d).heap[b]? = if b = blk then (w.heap[b]?).map (onCells (putCells enc off d)) else w.heap[b]? := by
 simp only [putRow, mapBlock, Array.getElem?_modify]
 by_cases h : b = blk
 ·subst h; simp
 ·simp [h, Ne.symm h]
theorem Sit.putRow {P : Program} {G : List (Nat × PD)} {B : Base P} {w : World} {φ : Nm} {r e : Nat} {g : Gh} {α : Type} [Inhabited α] {enc : α → Value} {pd : α → PD} (hrep : ∀ (w : World) (ok : Nat → Prop) x, RepD w ok (enc x) (pd x)) (hflat : ∀ x, flat (enc x) = true)
    {L L' : List α} (hro : B.ro = none) (hs : Sit G B w φ [(r, ⟨e, 1, dl (wab pd L)⟩)] g) (hl : L'.length = L.length) {b : Nat} (hb : φ r = some b) (n : Nat) (os : Array Obj) (hnb : ∀ x, wa0 (.d (pd x)) = false := by exact fun _ => rfl) :
    Sit G B (grow (Sort.putRow enc (Sort.ahead w n) b 0 L'.toArray) os) φ [(r, ⟨e, 1, dl (wab pd L')⟩)] g := by
  have hx : waa ([(r, ⟨e, 1, dl (wab pd L)⟩)] : wac) r = some ⟨e, 1, dl (wab pd L)⟩ := by simp [waa]
  have hr : Rep G B 0 ⟨[], [(r, ⟨e, 1, dl (wab pd L)⟩)], [], g⟩ { tmps := #[], defers := [] } w φ := by
    refine Rep.of_sit hs rfl (fun t => .any _) ?_
    rw [B.hheld hro]; exact .nil
  have hlt := hr.heap.lt hx hb
  have e1 : grow (Sort.putRow enc (Sort.ahead w n) b 0 L'.toArray) os = Sort.putRow enc (grow (Sort.ahead w n) os) b 0 L'.toArray := (putRow_grow enc (Sort.ahead w n) os b 0 L'.toArray hlt).symm
  rw [e1]
  have hsz : w.heap.size ≤ (grow (Sort.ahead w n) os).heap.size := by simp [grow, Sort.ahead]
  have hold : ∀ c, c < w.heap.size → (grow (Sort.ahead w n) os).heap[c]? = w.heap[c]? := fun c h => wnP (Sort.ahead w n) os h
  have hr1 : Rep G B 0 ⟨[], [(r, ⟨e, 1, dl (wab pd L)⟩)], [], g⟩ { tmps := #[], defers := [] } (grow (Sort.ahead w n) os) φ :=
    hr.world (wjk hsz hold (fun s x c h1 h2 => hr.heap.lt h1 h2)) ⟨rfl, rfl, rfl, hsz, fun c h _ => hold c h⟩ (fun s x c h1 h2 => hold c (hr.heap.lt h1 h2)) (fun c h _ => hold c h)
  obtain ⟨c, C, z, h1, h2, h3, hz⟩ := (hr1.heap.rows r _ b hx hb).here (Nat.le_refl 1)
  have hz0 : z = 0 := hz.zero_of fun p hp => by simp only [dl, wab, List.mem_map] at hp; obtain ⟨_, ⟨x, _, rfl⟩, rfl⟩ := hp; exact hnb x
  subst hz0
  have hll : (dl (wab pd L)).length = L.length := by simp [dl, wab]
  have hw := hr1.write (hk1 := Nat.le_refl 1) (w' := Sort.putRow enc (grow (Sort.ahead w n) os) b 0 L'.toArray) (c' := putCells enc 0 L'.toArray c) hx hb (els := dl (wab pd L')) (by simp [dl, wab, hl]) h1 (by rw [wiH, if_pos rfl, h1]; rfl) (.zero _) (by simp [putCells])
    ⟨rfl, rfl, rfl, by simp, fun k _ hk => by rw [wiH, if_neg hk]⟩ (by simp) (fun i hi => by
      have hi' : i < L'.length := by simpa [dl, wab] using hi
      have hcs : i < c.size := by
        have := h2.1; have := h2.2.1
        rw [hll] at this
        dsimp only at *
        omega
      refine ⟨enc L'[i], ?_, by rw [weS (hflat _)]; rfl, fun j hj => ?_⟩
      · have e2 : (dl (wab pd L'))[i] = .d (pd L'[i]) := by simp [dl, wab]
        rw [e2]; exact .d (hrep _ _ _)
      · have hj0 : j = 0 := by dsimp only at hj; omega
        subst hj0
        rw [weS (hflat _)]
        refine ⟨?_, hflat _⟩
        simp [putCells, Array.getElem?_mapIdx, hcs, hi', Array.getD])
  have e3 : waj ([(r, ⟨e, 1, dl (wab pd L)⟩)] : wac) r ⟨e, 1, dl (wab pd L')⟩ = [(r, ⟨e, 1, dl (wab pd L')⟩)] := by simp [waj]
  have := hw.sit
  dsimp only at this
  rw [e3] at this
  exact this
theorem Sit.holds {P : Program} {G : List (Nat × PD)} {B : Base P} {w : World} {φ : Nm} {r e : Nat} {g : Gh} {α : Type} [Inhabited α] {enc : α → Value} {pd : α → PD} (hun : ∀ (w : World) (X : Nat → Prop) (φ : Nm) (H : wac) v x, RepV w X φ H v (.d (pd x)) → v = enc x) (hflat : ∀ x, flat (enc x) = true)
    {L : List α} (hs : Sit G B w φ [(r, ⟨e, 1, dl (wab pd L)⟩)] g) {b : Nat} (hb : φ r = some b) (hnb : ∀ x, wa0 (.d (pd x)) = false := by exact fun _ => rfl) : Holds enc w b 0 L.toArray ∧ b < w.heap.size := by
  have hx : waa ([(r, ⟨e, 1, dl (wab pd L)⟩)] : wac) r = some ⟨e, 1, dl (wab pd L)⟩ := by simp [waa]
  obtain ⟨c, C, z, h1, h2, h3, hz⟩ := (hs.heap.rows r _ b hx hb).here (Nat.le_refl 1)
  have hz0 : z = 0 := hz.zero_of fun p hp => by simp only [dl, wab, List.mem_map] at hp; obtain ⟨_, ⟨x, _, rfl⟩, rfl⟩ := hp; exact hnb x
  subst hz0
  refine ⟨fun j hj => ?_, (Array.getElem?_eq_some_iff.1 h1).1⟩
  have hj' : j < L.length := by simpa using hj
  obtain ⟨v, hv, hs1, hv2⟩ := h3 j (by simpa [dl, wab] using hj')
  have e2 : (dl (wab pd L))[j]'(by simpa [dl, wab] using hj') = .d (pd L[j]) := by simp [dl, wab]
  rw [e2] at hv
  have := hun _ _ _ _ _ _ hv
  subst this
  have hc := (hv2 0 Nat.one_pos).1
  rw [weS (hflat _)] at hc
  have hc : c[j]? = some (enc L[j]) := by simpa [Array.getD] using hc
  refine ⟨?_, ?_⟩
  · simp [World.cell?, h1, hc, hj']
  · simp [World.frozen?, h1]
end Go.Pv

namespace Go.Pv
section
variable {P : Program} {G : List (Nat × PD)} {ro : Option Nat} {N : Nat} {ops : Array Oper} {σ τ σ' : St} {o : Oper} {rest : List Oper}
def HandFn (P : Program) (G : List (Nat × PD)) (f : FuncId) (args : List PV) (i e k : Nat) (l : List PD) (res : PV) (l' : List PD) : Prop :=
 Fn P G f args [(i, ⟨e, k, dl l⟩)] fun p K => p = res ∧ K = [(i, ⟨e, k, dl l'⟩)] ∧ l'.length = l.length
theorem we0 {i s : Nat} {x y : Row} (h : waa [(i, x)] s = some y) : s = i ∧ y = x := by
 simp only [waa] at h
 split at h
 ·rename_i e; simp only [Option.some.injEq] at h; exact ⟨e.symm, h.symm⟩
 ·cases h
theorem clH {f : FuncId} {c : Call} {xo : Operand} {args : List PV} {res : PV} {i e k : Nat} {l l' : List PD} {Q : St → Prop} (r : Nat) (hf : HandFn P G f args i e k l res l') (h2 : AOps P G ro N ops rest σ' Q)
  (hd : wan N o.dst := by (simp only [go_sem, ↓reduceIte]; done)) (hg : ∀ {K : St → Prop}, OpT P G ro N o σ K → wfG P G ro N (wbg ops) o σ K := by (intro K k; simp (disch := omega) only [go_sem, ↓reduceIte]; exact k))
  (ho : o.op = .call c := by rfl) (hc : c.callee = .value xo := by rfl) (hx : wcr (σ.eval xo) = some (f, []) := by rfl) (hcal : wa1 P f = true := by kernel_rfl) (hi : i < 1000 := by decide)
  (hrow : waa σ.heap r = some ⟨e, k, dl l⟩ := by rfl)
  (ha : wds σ.heap [(i, ⟨e, k, dl l⟩)] (fun _ => r) (war σ c.args.toList) args := by (repeat' (first | exact trivial | exact rfl | apply And.intro | exact wrN (by (simp only [lenc_length, List.length_append, List.length_set, List.length_replicate, List.length_cons, List.length_nil, Nat.zero_add]; done)) | (simp only [go_sem, ↓reduceIte]; done))))
  (hp : ({ σ with heap := waj σ.heap r ⟨e, k, dl l'⟩ } : St).put o.dst (res.ren fun _ => r) = σ' := by (simp only [go_sem, ↓reduceIte]; rfl)) (hcl : clean res := by (simp only [clean, cleanL, and_self]; done)) (hrf : refsIn [(i, ⟨e, k, dl l'⟩)] res := by (first | exact trivial | exact rfl | (simp only [go_sem, ↓reduceIte]; done))) :
  AOps P G ro N ops (o :: rest) σ Q := by
 refine AOps.consC hd fun K hK => hg ?_
 refine OpT.callG (H := [(i, ⟨e, k, dl l⟩)]) (g := fun _ => r) (gc := none) ho hc hx hcal hf ⟨fun s x h => ?_, fun s x h => ?_, fun s t x y h h' _ => ?_, fun s x h => ?_⟩ (.inl rfl) (by rw [List.append_nil]; exact ha) hd ?_
 ·rw [(we0 h).1]; exact hi
 ·rw [(we0 h).2, hrow]; simp only [Row.ren, dl_ren]
 ·rw [(we0 h).1, (we0 h').1]
 ·rw [(we0 h).2]; exact wfz _ _
 ·rintro p H' g' ⟨rfl, rfl, hlen⟩
  refine ⟨fun _ => r, ⟨fun s x h _ => ?_, fun s x h => ?_, fun s x h hs => ?_, fun s t x y h h' _ => ?_, fun s x h => ?_⟩, hcl, hrf, ?_⟩
  ·obtain ⟨rfl, rfl⟩ := we0 h
   exact ⟨⟨e, k, dl l⟩, by simp [waa], rfl, rfl, by simp [dl, hlen]⟩
  ·obtain ⟨rfl, rfl⟩ := we0 h
   exact ⟨_, by simp [waa]; rfl⟩
  ·have := (we0 h).1; omega
  ·rw [(we0 h).1, (we0 h').1]
  ·rw [(we0 h).2]; exact ⟨wfz _ _, by rw [dl_clean]; trivial⟩
  ·simp only [wbQ, Row.ren, dl_ren, whm]
   exact hp ▸ hK _ h2
def NewFn (P : Program) (G : List (Nat × PD)) (f : FuncId) (args : List PV) (res : Nat → PV) (e k : Nat) (l : List PD) : Prop :=
 Fn P G f args [] fun p K => ∃ q, 1000 ≤ q ∧ p = res q ∧ K = [(q, ⟨e, k, dl l⟩)]
theorem NewFn.pf {f : FuncId} {fn : Func} {c : Code} {args : List PV} {n : Nat} {e0 : List (Nat × PV)} {res : Nat → PV} {e k : Nat} {l : List PD} (hf : P.funcs[f]? = some fn) (hn : fn.ntmps = n)
  (h : AWp P G none n c ⟨e0, [], [], none⟩ (Fin P G fn fun p K => ∃ q, 1000 ≤ q ∧ p = res q ∧ waa K q = some ⟨e, k, dl l⟩)) (hb : fn.body = some c := by rfl) (hN : args.length ≤ n := by simp)
  (he : wb8 0 args = e0 := by (simp only [wb8, Nat.reduceAdd, Nat.zero_add]; rfl)) (hrf : ∀ q x, refsIn [(q, x)] (res q) := by (intro q x; simp only [go_sem, waa, ↓reduceIte, Option.isSome_some]; done)) : NewFn P G f args res e k l := by
 subst hn he
 intro B φ vs h0 h1 h2 h3
 refine (Fn.intro hf hb hN h B φ vs h0 h1 h2 h3).mono ?_
 rintro e' w' ⟨v, p, H', g', φ', he, ⟨q, hq, rfl, hg⟩, hv, hs⟩
 have hle : ∀ r x, waa [(q, (⟨e, k, dl l⟩ : Row))] r = some x → waa H' r = some x := fun r x hx => by
  obtain ⟨rfl, rfl⟩ := we0 hx; exact hg
 exact ⟨v, _, [(q, ⟨e, k, dl l⟩)], g', φ', he, ⟨q, hq, rfl, rfl⟩, hv.less hle (hrf q _), hs.less hle (fun r x hx => by rw [(we0 hx).2]; exact wfz _ _)⟩
end
end Go.Pv

namespace Go.Pv
@[irreducible] def sortI (l : List Int) : List Int := l.mergeSort fun x y => decide (x ≤ y)
@[irreducible] def compactI (l : List Int) : List Int := Go.Lib.compact l
def waH (l : List Int) : List Int := compactI l ++ List.replicate (l.length - (compactI l).length) 0
@[go_sem] theorem sortI_length (l : List Int) : (sortI l).length = l.length := by unfold sortI; exact List.length_mergeSort l
end Go.Pv

namespace Go.Pv
section
variable {P : Program} {G : List (Nat × PD)} {ro : Option Nat} {N : Nat} {σ : St} {o : Oper} {K : St → Prop}
theorem wiv : ∀ {H : wac} {r : Nat} {x : Row}, waa H r = some x → waj H r x = H
 | [], _, _, h => by simp [waa] at h
 | (s, y) :: l, r, x, h => by
  simp only [waa] at h
  simp only [waj]
  split at h
  ·rename_i e; simp only [Option.some.injEq] at h; subst h; rw [if_pos e, e]
  ·rename_i e; rw [if_neg e, wiv h]
theorem wsW {k n m : Nat} {cur news : List Value} (h1 : n * k ≤ cur.length) (h2 : news.length = m * k) (i j : Nat) (hj : j < k) :
  (cur.take (n * k) ++ news ++ cur.drop (n * k + news.length))[i * k + j]? = if i < n then cur[i * k + j]? else if i < n + m then news[(i - n) * k + j]? else cur[i * k + j]? := by
 have hl : (cur.take (n * k)).length = n * k := by simp; omega
 by_cases hi : i < n
 ·rw [if_pos hi]
  have hm := Nat.mul_le_mul_right k (show i + 1 ≤ n from hi)
  rw [Nat.add_mul, Nat.one_mul] at hm
  rw [List.append_assoc, List.getElem?_append_left (by omega), List.getElem?_take, if_pos (by omega)]
 ·rw [if_neg hi]
  have hge := Nat.mul_le_mul_right k (show n ≤ i by omega)
  by_cases hi2 : i < n + m
  ·rw [if_pos hi2]
   have hm := Nat.mul_le_mul_right k (show i - n + 1 ≤ m by omega)
   rw [Nat.add_mul, Nat.one_mul] at hm
   have hsub : (i - n) * k = i * k - n * k := Nat.sub_mul _ _ _
   rw [List.append_assoc, List.getElem?_append_right (by omega), hl, List.getElem?_append_left (by omega)]
   congr 1; omega
  ·rw [if_neg hi2]
   have hm := Nat.mul_le_mul_right k (show n + m ≤ i by omega)
   rw [Nat.add_mul] at hm
   rw [List.getElem?_append_right (by simp only [List.length_append, hl]; omega), List.getElem?_drop]
   congr 1
   simp only [List.length_append, hl]; omega
theorem headOk.over {z n : Nat} {l m : List PV} (h : headOk z l) (hn : z ≤ n) {k : Nat} : headOk z (l.take n ++ m ++ l.drop k) := fun i hi => by
 obtain ⟨p, h1, h2⟩ := h i hi
 have hl := (List.getElem?_eq_some_iff.1 h1).1
 exact ⟨p, by rw [List.append_assoc, List.getElem?_append_left (by simp; omega), List.getElem?_take, if_pos (by omega)]; exact h1, h2⟩
theorem headOk.zero_first {z : Nat} {l : List PV} (h : headOk z l) (hn : ∀ p, l[0]? = some p → wa0 p = false) : z = 0 := by
 rcases Nat.eq_zero_or_pos z with rfl | hz
 ·rfl
 ·obtain ⟨p, h1, h2⟩ := h 0 hz
  rw [hn p h1] at h2; cases h2
theorem headOk.of_first {z n : Nat} {l : List PV} (h : headOk z l) (hn : ∀ p, l[0]? = some p → wa0 p = false) (_ : 0 ≤ n) : z ≤ n := by
 rw [h.zero_first hn]; exact Nat.zero_le _
theorem woY {α : Type} {f : α → PD} {L : List α} (h : ∀ x, wa0 (.d (f x)) = false) : ∀ p, (dl (wab f L))[0]? = some p → wa0 p = false := fun p hp => by
 cases L with
 | nil => simp [dl, wab] at hp
 | cons x L => simp [dl, wab] at hp; rw [← hp]; exact h x
theorem Rep.over {B : Base P} {a : Act} {w : World} {φ : Nm} (hr : Rep G B N σ a w φ) {r b : Nat} {x : Row} (hx : waa σ.heap r = some x) (hb : φ r = some b) (hk1 : 1 ≤ x.k) {cur : Array Value} {zf : Nat} (hc : w.heap[b]? = some (.cells cur x.e (0, zf))) {n : Nat} (hzf : headOk zf x.els) (hzn : zf ≤ n) {L : List PV} {news : List Value}
  (hn : n + L.length ≤ x.els.length) (hl : news.length = L.length * x.k)
  (hL : ∀ i (hi : i < L.length), ∃ v, RepV w B.X φ σ.heap v L[i] ∧ v.cells.size = x.k ∧ ∀ j, j < x.k → news[i * x.k + j]? = some (v.cells.getD j undef) ∧ flat (v.cells.getD j undef) = true) :
  Rep G B N { σ with heap := waj σ.heap r { x with els := x.els.take n ++ L ++ x.els.drop (n + L.length) } } a (w.setRow b (cur.toList.take (n * x.k) ++ news ++ cur.toList.drop (n * x.k + news.length)).toArray) φ := by
 obtain ⟨c, C, _, h1, h2, h3, _⟩ := (hr.heap.rows r x b hx hb).here hk1
 rw [hc] at h1; simp only [Option.some.injEq, Obj.cells.injEq, true_and, Prod.mk.injEq] at h1; obtain ⟨rfl, -⟩ := h1
 have hCm := Nat.mul_le_mul_right x.k (show n + L.length ≤ C by have := h2.2.1; omega)
 rw [Nat.add_mul] at hCm
 have hcl : cur.toList.length = C * x.k := by simpa using h2.1
 refine hr.write hx hb hk1 (by simp; omega) hc (setRow_heap w b cur _ x.e _ hc) (hzf.over hzn) (by simp; omega) ⟨rfl, rfl, rfl, by simp, fun y _ hy => setRow_other w b y _ hy⟩ (size_setRow _ _ _) fun i hi => ?_
 have hi' : i < x.els.length := by simp at hi; omega
 have hcell : ∀ j, j < x.k → (cur.toList.take (n * x.k) ++ news ++ cur.toList.drop (n * x.k + news.length)).toArray[i * x.k + j]? = if i < n then cur[i * x.k + j]? else if i < n + L.length then news[(i - n) * x.k + j]? else cur[i * x.k + j]? := fun j hj => by
  have := wsW (k := x.k) (n := n) (m := L.length) (cur := cur.toList) (news := news) (by omega) hl i j hj
  simpa using this
 by_cases hin : i < n
 ·obtain ⟨v, h4, h5, h6⟩ := h3 i hi'
  refine ⟨v, ?_, h5, fun j hj => ⟨?_, (h6 j hj).2⟩⟩
  ·have e : (x.els.take n ++ L ++ x.els.drop (n + L.length))[i] = x.els[i] := by
    rw [List.getElem_append_left (by simp; omega), List.getElem_append_left (by simp; omega)]; simp
   rw [e]; exact h4
  ·rw [hcell j hj, if_pos hin]; exact (h6 j hj).1
 ·by_cases hin2 : i < n + L.length
  ·obtain ⟨v, h4, h5, h6⟩ := hL (i - n) (by omega)
   refine ⟨v, ?_, h5, fun j hj => ⟨?_, (h6 j hj).2⟩⟩
   ·have e : (x.els.take n ++ L ++ x.els.drop (n + L.length))[i] = L[i - n]'(by omega) := by
     rw [List.getElem_append_left (by simp; omega), List.getElem_append_right (by simp; omega)]
     congr 1; simp; omega
    rw [e]; exact h4
   ·rw [hcell j hj, if_neg hin, if_pos hin2]; exact (h6 j hj).1
  ·obtain ⟨v, h4, h5, h6⟩ := h3 i hi'
   refine ⟨v, ?_, h5, fun j hj => ⟨?_, (h6 j hj).2⟩⟩
   ·have e : (x.els.take n ++ L ++ x.els.drop (n + L.length))[i] = x.els[i] := by
     rw [List.getElem_append_right (by simp; omega), List.getElem_drop]
     congr 1; simp; omega
    rw [e]; exact h4
   ·rw [hcell j hj, if_neg hin, if_neg hin2]; exact (h6 j hj).1
theorem OpT.appendIn {s x : Operand} {t e : TypeId} {y z : Ty} {r n : Nat} {row : Row} {L : List PV} (ho : o.op = .call { callee := .builtin .append, args := #[s, x], argTypes := #[t, t] })
  (ht : wad P t = some y) (hde : y.desc = .slice e) (he : wad P e = some z) (hk : 1 ≤ z.size)
  (hs : σ.eval s = .slc r 0 n) (hx : waa σ.heap r = some row) (hre : row.e = e) (hrk : row.k = z.size)
  (hsrc : wfx z.size σ.heap (σ.eval x) = some L) (hle : n + L.length ≤ row.els.length) (hd : wan N o.dst) (hnb : ∀ p, row.els[0]? = some p → wa0 p = false := by exact woY (fun _ => rfl))
  (hK : K (({ σ with heap := waj σ.heap r { row with els := row.els.take n ++ L ++ row.els.drop (n + L.length) } } : St).put o.dst (.slc r 0 (n + L.length)))) : OpT P G ro N o σ K := by
 intro B hro a w φ hr next Q hnx
 have hsv := hr.eval s
 rw [hs] at hsv
 have hxv := wpY hr hsrc (hr.eval x)
 have hop : ∀ v' w', (Builtin.append_ #[t, t] o.type #[a.eval s, a.eval x]).run P w = .ok v' w' → (o.semAt ro a.eval).run P w = .ok (.value v') w' := by
  intro v' w' h
  rw [Oper.semAt_eq _ _ _ (fun c hc => by rw [ho] at hc; cases hc)]
  simp only [execOp, ho, resolve, invoke, builtin, Sem.run_bind, Sem.run_pure, Result.andThen_ok, List.map_toArray, List.map_cons, List.map_nil, h]
 obtain ⟨hu, it, hit, hs1, hs2, hs3⟩ := waZ he
 have hut : P.underlying t = some (.slice e) := by rw [(waZ ht).1, hde]
 by_cases hL : L = []
 ·subst hL
  have hself : waj σ.heap r { row with els := row.els.take n ++ [] ++ row.els.drop (n + ([] : List PV).length) } = σ.heap := by
   have : row.els.take n ++ [] ++ row.els.drop (n + ([] : List PV).length) = row.els := by simp
   rw [this]; exact wiv hx
  rw [hself] at hK
  have hrun : (Builtin.append_ #[t, t] o.type #[a.eval s, a.eval x]).run P w = .ok (a.eval s) w := by
   have hc : ∃ b cap, a.eval s = .slice b n cap ∧ n ≤ cap := by
    rcases wcM hsv with ⟨⟨p0, h1, _⟩, _, h2, _⟩ | ⟨_, _, cap, h1, _, _, _, h2, _⟩
    ·exact ⟨p0, 0, by rw [h1, h2], by omega⟩
    ·exact ⟨_, cap, h1, h2⟩
   obtain ⟨b, cap, hc1, hc2⟩ := hc
   have hx0 : ∃ p c, a.eval x = .slice p 0 c := by
    rcases hxv with ⟨⟨p, h⟩, _⟩ | ⟨p, c, h, _⟩
    ·exact ⟨p, 0, h⟩
    ·exact ⟨some p, c, h⟩
   obtain ⟨p, c, hx0⟩ := hx0
   rw [hc1, hx0]
   cases b <;> cases p <;> simp [Builtin.append_, run_underlying hut, sizeOf, typeInfo, hit, Builtin.lenOf, Builtin.firstCells, loadCells, loadCellsFrom, storeCells, hc2]
  exact waI (hop _ _ hrun) (hnx _ _ _ φ hK (hr.put hd hsv))
 ·have hm : 1 ≤ L.length := List.length_pos_iff.2 hL
  rcases hxv with ⟨_, h⟩ | ⟨p, c, hxe, hrow⟩
  ·exact absurd h hL
  obtain ⟨news, hnw⟩ : ∃ news, news = (List.range (L.length * z.size)).map fun q => (w.cell? (p.add q)).getD undef := ⟨_, rfl⟩
  have hnl : news.length = L.length * z.size := by rw [hnw]; simp
  have hdiv : ∀ q, q < L.length * z.size → ∃ i j, i < L.length ∧ j < z.size ∧ q = i * z.size + j := fun q hq => ⟨q / z.size, q % z.size, Nat.div_lt_of_lt_mul (by rw [Nat.mul_comm]; exact hq), Nat.mod_lt _ hk, by rw [Nat.mul_comm]; exact (Nat.div_add_mod q z.size).symm⟩
  have hcell : ∀ q, q < L.length * z.size → ∃ u, w.cell? (p.add q) = some u ∧ flat u = true := fun q hq => by
   obtain ⟨i, j, hi, hj, rfl⟩ := hdiv q hq
   obtain ⟨v, _, _, h3⟩ := hrow i hi
   exact ⟨_, (h3 j hj).1, (h3 j hj).2⟩
  have hng : ∀ q, q < L.length * z.size → news[q]? = w.cell? (p.add q) := fun q hq => by
   obtain ⟨u, hu, _⟩ := hcell q hq
   rw [hnw]; simp [hq, hu]
  have hne : ∀ j u, news[j]? = some u → w.cell? (p.add j) = some u := fun j u hj => by
   have hlt : j < L.length * z.size := by rw [← hnl]; exact (List.getElem?_eq_some_iff.1 hj).1
   rw [← hng j hlt]; exact hj
  have hnf : ∀ u ∈ news, flat u = true := fun u hu => by
   obtain ⟨j, hj, rfl⟩ := List.getElem_of_mem hu
   obtain ⟨u', h1, h2⟩ := hcell j (hnl ▸ hj)
   have := hng j (hnl ▸ hj)
   rw [List.getElem?_eq_getElem hj, h1] at this
   simp only [Option.some.injEq] at this
   rw [this]; exact h2
  rcases wcM hsv with ⟨_, _, h4, h5, _⟩ | ⟨x2, b, cap, h3, hx2, hb, hn, hc, hl, hzz⟩
  ·have := hr.heap.void r row hx h5
   rw [this] at hle; simp at hle; exact absurd hle.2 hL
  ·rw [hx] at hx2; simp only [Option.some.injEq] at hx2; subst hx2
   obtain ⟨cur, C, zf, h1, h2, h3', hzf⟩ := (hr.heap.rows r row b hx hb).here (wc5 hsv hx)
   have hsz := hzz _ _ _ h1
   rw [Nat.zero_add] at hsz hl
   have hfit : n * it.size + news.length ≤ cur.size := by
    rw [hnl, hs1, ← Nat.add_mul, hsz, hrk]; exact Nat.mul_le_mul_right _ (by omega)
   have hrun := run_append_roomF (P := P) w t o.type e it hut hit b n cap cur (0, zf) (by rw [← hre]; exact h1) (by rw [(hzf.zero_first hnb)]; exact Nat.zero_le _) p L.length c news (by rw [hs1]; exact hnl) hne hnf (by omega) hfit
   have hrep := hr.over hx hb (wc5 hsv hx) h1 hzf (hzf.of_first hnb (by omega)) hle (by rw [hrk]; exact hnl) (fun i hi => by
    obtain ⟨v, h4, h5, h6⟩ := hrow i hi
    refine ⟨v, h4, by rw [hrk]; exact h5, fun j hj => ?_⟩
    rw [hrk] at hj ⊢
    have hm2 := Nat.mul_le_mul_right z.size (show i + 1 ≤ L.length from hi)
    rw [Nat.add_mul, Nat.one_mul] at hm2
    rw [hng (i * z.size + j) (by omega)]
    exact h6 j hj)
   have e0 : a.eval s = .slice (some ⟨b, 0, none⟩) n cap := by rw [h3, Nat.zero_mul]
   rw [← e0, ← hxe, hs1, ← hrk] at hrun
   refine waI (hop _ _ hrun) (hnx _ _ _ φ hK (hrep.put hd ?_))
   have hlen : (row.els.take n ++ L ++ row.els.drop (n + L.length)).length = row.els.length := by simp; omega
   have := RepV.slc (w := w.setRow b (cur.toList.take (n * row.k) ++ news ++ cur.toList.drop (n * row.k + news.length)).toArray) (X := B.X) (φ := φ) (H := waj σ.heap r { row with els := row.els.take n ++ L ++ row.els.drop (n + L.length) }) (r := r) (lo := 0) (n := n + L.length) (cap := cap) (b := b)
    (x := { row with els := row.els.take n ++ L ++ row.els.drop (n + L.length) }) (by rw [wag, if_pos rfl]) hb (by have := wc5 hsv hx; exact this) (by dsimp only; omega) (by omega) (by dsimp only; omega) (fun c0 e1 f0 hh => by
     rw [setRow_heap w b cur _ row.e _ h1] at hh
     simp only [Option.some.injEq, Obj.cells.injEq] at hh
     rw [← hh.1, Nat.zero_add]
     dsimp only
     have hfit' : n * row.k + news.length ≤ cur.size := by rw [hrk, ← hs1]; exact hfit
     simp only [List.size_toArray, List.length_append, List.length_take, List.length_drop, Array.length_toList]
     omega)
   rw [Nat.zero_mul] at this
   exact this
theorem OpT.clear {s : Operand} {t e : TypeId} {y z : Ty} {zv : Value} {zp : PV} {r lo n : Nat} {row : Row} (ho : o.op = .call { callee := .builtin .clear, args := #[s], argTypes := #[t] })
  (ht : wad P t = some y) (hde : y.desc = .slice e) (he : wad P e = some z) (hz : z.zero = some zv) (hzp : whS zv = some zp) (hzs : zv.cells.size = z.size) (hk : 1 ≤ z.size)
  (hs : σ.eval s = .slc r lo n) (hx : waa σ.heap r = some row) (hrk : row.k = z.size) (hdst : o.dst = none) (hnb : ∀ p, row.els[0]? = some p → wa0 p = false := by exact woY (fun _ => rfl))
  (hK : K { σ with heap := waj σ.heap r { row with els := row.els.take lo ++ List.replicate n zp ++ row.els.drop (lo + n) } }) : OpT P G ro N o σ K := by
 intro B hro a w φ hr next Q hnx
 have hsv := hr.eval s
 rw [hs] at hsv
 obtain ⟨hu, it, hit, hs1, hs2, hs3⟩ := waZ he
 have hut : P.underlying t = some (.slice e) := by rw [(waZ ht).1, hde]
 have hop : ∀ v' w', (Builtin.clear_ #[t] o.type #[a.eval s]).run P w = .ok v' w' → (o.semAt ro a.eval).run P w = .ok (.value v') w' := by
  intro v' w' h
  rw [Oper.semAt_eq _ _ _ (fun c hc => by rw [ho] at hc; cases hc)]
  simp only [execOp, ho, resolve, invoke, builtin, Sem.run_bind, Sem.run_pure, Result.andThen_ok, List.map_toArray, List.map_cons, List.map_nil, h]
 have hput0 : ∀ {τ : St} {w' : World} {u : Value}, Rep G B N τ a w' φ → Rep G B N τ (a.put o.dst u) w' φ := fun h => by rw [hdst]; exact h
 by_cases hn0 : n = 0
 ·subst hn0
  have hself : waj σ.heap r { row with els := row.els.take lo ++ List.replicate 0 zp ++ row.els.drop (lo + 0) } = σ.heap := by
   have : row.els.take lo ++ List.replicate 0 zp ++ row.els.drop (lo + 0) = row.els := by simp
   rw [this]; exact wiv hx
  rw [hself] at hK
  have hrun : (Builtin.clear_ #[t] o.type #[a.eval s]).run P w = .ok (.tuple #[]) w := by
   rcases wcM hsv with ⟨⟨p0, h1, _⟩, _⟩ | ⟨_, _, cap, h1, _⟩
   ·rw [h1]; cases p0 <;> simp [Builtin.clear_, run_underlying hut]
   ·rw [h1]; simp [Builtin.clear_, run_underlying hut]
  exact waI (hop _ _ hrun) (hnx _ _ _ φ hK (hput0 hr))
 ·rcases wcM hsv with ⟨_, _, h4, _⟩ | ⟨x2, b, cap, h3, hx2, hb, hn, hc, hl, hzz⟩
  ·exact absurd h4 hn0
  ·rw [hx] at hx2; simp only [Option.some.injEq] at hx2; subst hx2
   obtain ⟨cur, C, zf, h1, h2, h3', hzf⟩ := (hr.heap.rows r row b hx hb).here (wc5 hsv hx)
   have hsz := hzz _ _ _ h1
   obtain ⟨hz1, hz2⟩ := wkn (w := w) (X := B.X) (φ := φ) (H := σ.heap) hzp
   obtain ⟨news, hnw⟩ : ∃ news, news = (madeCells zv.cells (n * z.size)).toList := ⟨_, rfl⟩
   have hnl : news.length = n * z.size := by rw [hnw]; simp [size_madeCells]
   have hng : ∀ i j, i < n → j < z.size → news[i * z.size + j]? = some (zv.cells.getD j undef) := fun i j hi hj => by
    rw [hnw]
    have := wjX (z := zv.cells) (k := z.size) (n := n) (i := i) (j := j) hzs hj hi
    simpa using this
   have hnf : ∀ u ∈ news, u.oneCell' = true := fun u hu => by
    obtain ⟨q, hq, rfl⟩ := List.getElem_of_mem hu
    have hq' : q < n * z.size := hnl ▸ hq
    have e1 := hng (q / z.size) (q % z.size) (Nat.div_lt_of_lt_mul (by rw [Nat.mul_comm]; exact hq')) (Nat.mod_lt _ hk)
    rw [show q / z.size * z.size + q % z.size = q by rw [Nat.mul_comm]; exact Nat.div_add_mod q z.size, List.getElem?_eq_getElem hq, Option.some.injEq] at e1
    rw [e1]; exact hz2 _ (by rw [hzs]; exact Nat.mod_lt _ hk)
   have hzc : (Builtin.zeroCells zv.cells n).toList = news := by
    rw [hnw]; simp [Builtin.zeroCells, madeCells, hzs]
   have hfit : lo * row.k + news.length ≤ cur.size := by
    rw [hnl, hrk, ← Nat.add_mul, hsz, hrk]; exact Nat.mul_le_mul_right _ (by omega)
   have hst := run_storeCells_atF P b (lo * row.k) row.e (0, zf) news 0 cur w h1 (by rw [(hzf.zero_first hnb)]; exact Nat.zero_le _) (by simpa using hfit) hnf
   simp only [Nat.add_zero] at hst
   have hrun : (Builtin.clear_ #[t] o.type #[a.eval s]).run P w = .ok (.tuple #[]) (w.setRow b (cur.toList.take (lo * row.k) ++ news ++ cur.toList.drop (lo * row.k + news.length)).toArray) := by
    obtain ⟨m, rfl⟩ : ∃ m, n = m + 1 := ⟨n - 1, by omega⟩
    rw [h3]
    have hzr := whD he hz
    simp [Builtin.clear_, run_underlying hut, hzr, hzc, hst]
   have hrep := hr.over hx hb (wc5 hsv hx) h1 hzf (hzf.of_first hnb (by omega)) (n := lo) (L := List.replicate n zp) (news := news) (by simpa using hn) (by rw [hrk]; simpa using hnl) (fun i hi => by
    have hi' : i < n := by simpa using hi
    refine ⟨zv, by simpa using hz1, by rw [hrk]; exact hzs, fun j hj => ?_⟩
    rw [hrk] at hj ⊢
    exact ⟨hng i j hi' hj, hz2 j (by rw [hzs]; exact hj)⟩)
   rw [List.length_replicate] at hrep
   exact waI (hop _ _ hrun) (hnx _ _ _ φ hK (hput0 hrep))
theorem wrQ {P : Program} {w : World} {X : Nat → Prop} {φ : Nm} {H : wac} {t e : TypeId} {y : Ty} {k : Nat} {els : List PD} {v : Value} (ht : wad P t = some y) (hde : y.desc = .slice e) (hv : RepV w X φ H v (.d (.imm k els))) (x z : Operand) :
  ∃ b, (do eqGuard .eql t x z v (.slice none 0 0); Go.binOp .eql t v (.slice none 0 0) : Sem Value).run P w = .ok (.bool b) w ∧ (b = true → els = []) := by
 have heq : ∀ u b, (∀ d, (Op.equalIn (d + 1) t u (.slice none 0 0)).run P w = .ok b w) → (Op.equal t u (.slice none 0 0)).run P w = .ok b w := fun u b h => h 9999
 have hb : ∃ b, (Op.equal t v (.slice none 0 0)).run P w = .ok b w ∧ (b = true → els = []) := by
  cases hv with | d hv =>
  cases hv with
  | imm0 =>
   refine ⟨true, heq _ _ fun d => ?_, fun _ => rfl⟩
   unfold Op.equalIn
   rw [Sem.run_bind, waX ht, hde]; rfl
  | imm =>
   refine ⟨false, heq _ _ fun d => ?_, fun h => by cases h⟩
   unfold Op.equalIn
   rw [Sem.run_bind, waX ht, hde]; rfl
 obtain ⟨b, h1, h2⟩ := hb
 refine ⟨b, ?_, h2⟩
 have hg : (eqGuard .eql t x z v (.slice none 0 0)).run P w = .ok () w := by
  refine wfu (.inr (by simp)) (.inr (by simp))
 have h3 : Go.binOp .eql t v (.slice none 0 0) = (do Pure.pure (.bool (← Op.equal t v (.slice none 0 0))) : Sem Value) := by
  cases hv with | d hv => cases hv <;> rfl
 rw [Sem.run_bind, hg, h3]
 simp only [Result.andThen]
 rw [Sem.run_bind, h1]; rfl
theorem OpT.nilTest {x : Operand} {t t' e : TypeId} {y : Ty} {k : Nat} {els : List PD} (ho : o.op = .binOp .eql t x (.const (.slice none 0 0)) t') (ht : wad P t = some y) (hde : y.desc = .slice e) (hx : σ.eval x = .d (.imm k els)) (hd : wan N o.dst)
  (h1 : els = [] → K (σ.put o.dst (.d (.bool true)))) (h2 : K (σ.put o.dst (.d (.bool false)))) : OpT P G ro N o σ K := by
 intro B hro a w φ hr next Q hnx
 have hv := hr.eval x
 rw [hx] at hv
 obtain ⟨b, h3, h4⟩ := wrQ ht hde hv x (.const (.slice none 0 0))
 have hop : (o.semAt ro a.eval).run P w = .ok (.value (.bool b)) w := by
  rw [Oper.semAt_eq _ _ _ (fun c hc => by rw [ho] at hc; cases hc)]
  simp only [execOp, ho]
  exact wbz h3
 refine waI hop (hnx _ _ _ φ ?_ (hr.put hd (.d (.bool b))))
 cases b with
 | true => exact h1 (h4 rfl)
 | false => exact h2
theorem wge {P : Program} {w : World} {k : IntKind} {n : Int} {y : Nat} (h0 : 0 ≤ n) (h1 : n ≤ y) (c : BoundsCode) : (Instr.sliceBound (.int k n) y c).run P w = .ok n.toNat w := by
 simp [Instr.sliceBound, asIntOf, h0, h1]
theorem OpT.slice3 {x lo hi mx : Operand} {t e : TypeId} {y z : Ty} {r l0 n : Nat} {k1 k2 k3 : IntKind} {a1 b1 c1 : Int} (ho : o.op = .slice t x (some lo) (some hi) (some mx)) (ht : wad P t = some y) (hde : y.desc = .slice e) (he : wad P e = some z)
  (hx : σ.eval x = .slc r l0 n) (h1 : σ.eval lo = .d (.int k1 a1)) (h2 : σ.eval hi = .d (.int k2 b1)) (h3 : σ.eval mx = .d (.int k3 c1)) (h4 : 0 ≤ a1) (h5 : a1 ≤ b1) (h6 : b1 ≤ c1) (h7 : c1 ≤ n) (hd : wan N o.dst) (hK : K (σ.put o.dst .any)) : OpT P G ro N o σ K := by
 intro B hro a w φ hr next Q hnx
 have hv := hr.eval x
 rw [hx] at hv
 have v1 := hr.eval lo; rw [h1] at v1
 have v2 := hr.eval hi; rw [h2] at v2
 have v3 := hr.eval mx; rw [h3] at v3
 have hs : ∃ p cap, a.eval x = .slice p n cap ∧ n ≤ cap := by
  rcases wcM hv with ⟨⟨p, e1, _⟩, _, e2, _⟩ | ⟨_, _, cap, e1, _, _, _, e2, _⟩
  ·exact ⟨p, 0, by rw [e1, e2], by omega⟩
  ·exact ⟨_, cap, e1, e2⟩
 obtain ⟨p, cap, e1, e2⟩ := hs
 have hrun : ∃ u, (Instr.sliceAt t (a.eval x) (some (a.eval lo)) (some (a.eval hi)) (some (a.eval mx))).run P w = .ok u w := by
  rw [e1, wbr v1, wbr v2, wbr v3]
  refine ⟨.slice (if c1.toNat = a1.toNat then p else p.map (·.add (a1.toNat * z.size))) (b1.toNat - a1.toNat) (c1.toNat - a1.toNat), by
   simp only [Instr.sliceAt, Sem.run_bind, waX ht, Result.andThen, hde, Instr.slice, Instr.sliceBounds, Option.isSome_some, if_true, wge (k := k3) (n := c1) (y := cap) (by omega) (by omega), wge (k := k2) (n := b1) (y := c1.toNat) (by omega) (by omega), wge (k := k1) (n := a1) (y := b1.toNat) (by omega) (by omega), Sem.run_pure, wcH he]⟩
 obtain ⟨u, hu⟩ := hrun
 refine waI (u := u) ?_ (hnx _ _ _ φ hK (hr.put hd (.any u)))
 rw [Oper.semAt_eq _ _ _ (fun c hc => by rw [ho] at hc; cases hc)]
 simp only [execOp, ho, Option.map_some]
 exact wbz hu
theorem OpT.sliceIn {x lo hi : Operand} {t e : TypeId} {y z : Ty} {r n : Nat} {row : Row} {k1 k2 : IntKind} {a1 b1 : Nat} (ho : o.op = .slice t x (some lo) (some hi) none) (ht : wad P t = some y) (hde : y.desc = .slice e) (he : wad P e = some z)
  (hx : σ.eval x = .slc r 0 n) (hrow : waa σ.heap r = some row) (hrk : row.k = z.size) (h1 : σ.eval lo = .d (.int k1 a1)) (h2 : σ.eval hi = .d (.int k2 b1)) (h5 : a1 ≤ b1) (h6 : b1 ≤ row.els.length) (h7 : a1 < row.els.length) (hd : wan N o.dst)
  (hK : K (σ.put o.dst (.slc r a1 (b1 - a1)))) : OpT P G ro N o σ K := by
 intro B hro a w φ hr next Q hnx
 have hv := hr.eval x
 rw [hx] at hv
 have v1 := hr.eval lo; rw [h1] at v1
 have v2 := hr.eval hi; rw [h2] at v2
 rcases wcM hv with ⟨_, _, _, e3, _⟩ | ⟨x2, b, cap, e1, e2, e3, e4, e5, e6, e7⟩
 ·have := hr.heap.void r row hrow e3
  rw [this] at h7; simp at h7
 ·rw [hrow] at e2; simp only [Option.some.injEq] at e2; subst e2
  rw [Nat.zero_add] at e6
  have hrun : (Instr.sliceAt t (a.eval x) (some (a.eval lo)) (some (a.eval hi)) none).run P w = .ok (.slice (some ⟨b, a1 * row.k, none⟩) (b1 - a1) (cap - a1)) w := by
   rw [e1, wbr v1, wbr v2]
   simp only [Instr.sliceAt, Sem.run_bind, waX ht, Result.andThen, hde, Instr.slice, Instr.sliceBounds, Option.isSome_none, if_true, wge (k := k2) (n := (b1 : Int)) (y := cap) (by omega) (by omega), wge (k := k1) (n := (a1 : Int)) (y := b1) (by omega) (by omega), Sem.run_pure, wcH he, Int.toNat_natCast, Bool.false_eq_true, if_false]
   rw [if_neg (by omega), Option.map_some, wbX, Nat.zero_mul, Nat.zero_add, hrk]
  refine waI (u := .slice (some ⟨b, a1 * row.k, none⟩) (b1 - a1) (cap - a1)) ?_ (hnx _ _ _ φ hK (hr.put hd (.slc hrow e3 (wc5 hv hrow) (by omega) (by omega) (by omega) fun c e f hh => ?_)))
  ·rw [Oper.semAt_eq _ _ _ (fun c hc => by rw [ho] at hc; cases hc)]
   simp only [execOp, ho, Option.map_some, Option.map_none]
   exact wbz hrun
  ·rw [e7 c e f hh]; congr 1; omega
theorem OpT.sliceEnd {x lo : Operand} {t e : TypeId} {y z : Ty} {r l0 n : Nat} {k1 : IntKind} (ho : o.op = .slice t x (some lo) none none) (ht : wad P t = some y) (hde : y.desc = .slice e) (he : wad P e = some z)
  (hx : σ.eval x = .slc r l0 n) (h1 : σ.eval lo = .d (.int k1 n)) (hd : wan N o.dst) (k : Nat) (hK : K (σ.put o.dst (.d (.imm k [])))) : OpT P G ro N o σ K := by
 intro B hro a w φ hr next Q hnx
 have hv := hr.eval x
 rw [hx] at hv
 have v1 := hr.eval lo; rw [h1] at v1
 have hs : ∃ p cap, a.eval x = .slice p n cap ∧ n ≤ cap ∧ (p = none → n = 0 ∧ cap = 0) ∧ ∀ q, p = some q → q.spot = none := by
  rcases wcM hv with ⟨⟨p, e1, e3⟩, _, e2, _⟩ | ⟨_, b, cap, e1, _, _, _, e2, _⟩
  ·exact ⟨p, 0, by rw [e1, e2], by omega, fun _ => ⟨e2, rfl⟩, e3⟩
  ·exact ⟨_, cap, e1, e2, (by intro h; cases h), (by intro q hq; cases hq; rfl)⟩
 obtain ⟨p, cap, e1, e2, e3, e4⟩ := hs
 have hrun : (Instr.sliceAt t (a.eval x) (some (a.eval lo)) none none).run P w = .ok (.slice (if cap = n then p else p.map (·.add (n * z.size))) 0 (cap - n)) w := by
  rw [e1, wbr v1]
  simp only [Instr.sliceAt, Sem.run_bind, waX ht, Result.andThen, hde, Instr.slice, Instr.sliceBounds, Option.isSome_none, wge (k := k1) (n := (n : Int)) (y := n) (by omega) (by omega), Sem.run_pure, wcH he, Int.toNat_natCast, Bool.false_eq_true, if_false, Nat.sub_self]
 refine waI (u := .slice (if cap = n then p else p.map (·.add (n * z.size))) 0 (cap - n)) ?_ (hnx _ _ _ φ hK (hr.put hd (.d ?_)))
 ·rw [Oper.semAt_eq _ _ _ (fun c hc => by rw [ho] at hc; cases hc)]
  simp only [execOp, ho, Option.map_some, Option.map_none]
  exact wbz hrun
 ·cases p with
  | none =>
   obtain ⟨h8, h9⟩ := e3 rfl
   subst h8 h9
   simp only [Option.map_none, ite_self, Nat.sub_self]
   exact .imm0 k
  | some q =>
   obtain ⟨qb, qo, qs⟩ := q
   have := e4 _ rfl
   dsimp only at this
   subst this
   rw [Option.map_some, wbX]
   split
   ·exact .imm (fun _ => undef) (fun _ => rfl) (fun h => absurd rfl h) rfl (by omega) (fun i hi => by simp at hi) (fun i hi => by simp at hi) (fun i hi => by simp at hi) (fun i hi => by simp at hi) (fun i hi => by simp at hi)
   ·exact .imm (fun _ => undef) (fun _ => rfl) (fun h => absurd rfl h) rfl (by omega) (fun i hi => by simp at hi) (fun i hi => by simp at hi) (fun i hi => by simp at hi) (fun i hi => by simp at hi) (fun i hi => by simp at hi)
theorem OpX.sliceEnd {xs : Exc} {K : Foot → St → Prop} {x lo : Operand} {t e : TypeId} {y z : Ty} {r l0 n : Nat} {k1 : IntKind} (ho : o.op = .slice t x (some lo) none none) (ht : wad P t = some y) (hde : y.desc = .slice e) (he : wad P e = some z)
  (hx : σ.eval x = .slc r l0 n) (h1 : σ.eval lo = .d (.int k1 n)) (hd : wan N o.dst) (k : Nat) (hxs : exE xs (waJ o.dst (.d (.imm k [])))) (hK : K (some (waF (waq o.op) ++ wcS σ (waq o.op), waN o.dst)) (σ.put o.dst (.d (.imm k [])))) : OpX P G ro N xs o σ K := by
 refine ⟨some (waF (waq o.op) ++ wcS σ (waq o.op), waN o.dst), σ.put o.dst (.d (.imm k [])), ⟨waJ o.dst (.d (.imm k [])), fun k hk => by rw [wci] at hk; exact hk, hxs, fun σ' hd' hs _ => ?_, wbd _ _ _, St.put_rest _ _ _⟩, hK⟩
 have ha := wcp (σ := σ) (σ' := σ') (l := waq o.op) fun k hk => hs k (List.mem_append_left _ hk)
 rw [ho] at ha
 have m1 : x ∈ waq (.slice t x (some lo) none none) := by simp [waq, wjv]
 have m2 : lo ∈ waq (.slice t x (some lo) none none) := by simp [waq, wjv]
 exact OpT.sliceEnd ho ht hde he (by rw [ha _ m1]; exact hx) (by rw [ha _ m2]; exact h1) hd k ⟨by rw [St.put_rest]; exact hd', wbd _ _ _⟩
variable {ops : Array Oper} {rest : List Oper} {σ' : St}
theorem nt {x : Operand} {t t' e : TypeId} {y : Ty} {k : Nat} {els : List PD} {Q : St → Prop} (ht : wad P t = some y) (hde : y.desc = .slice e) (h1 : els = [] → AOps P G ro N ops rest (σ.put o.dst (.d (.bool true))) Q) (h2 : AOps P G ro N ops rest (σ.put o.dst (.d (.bool false))) Q)
  (hd : wan N o.dst := by (simp only [go_sem, ↓reduceIte]; done)) (hg : ∀ {K : St → Prop}, OpT P G ro N o σ K → wfG P G ro N (wbg ops) o σ K := by (intro K k; simp (disch := omega) only [go_sem, ↓reduceIte]; exact k))
  (ho : o.op = .binOp .eql t x (.const (.slice none 0 0)) t' := by rfl) (hx : σ.eval x = .d (.imm k els) := by rfl) : AOps P G ro N ops (o :: rest) σ Q :=
 AOps.consC hd fun _ hK => hg (OpT.nilTest ho ht hde hx hd (fun he => hK _ (h1 he)) (hK _ h2))
theorem on {Q : St → Prop} (h : ∀ K : St → Prop, (∀ σ, AOps P G ro N ops rest σ Q → K σ) → OpT P G ro N o σ K) (hd : wan N o.dst := by (simp only [go_sem, ↓reduceIte]; done))
  (hg : ∀ {K : St → Prop}, OpT P G ro N o σ K → wfG P G ro N (wbg ops) o σ K := by (intro K k; simp (disch := omega) only [go_sem, ↓reduceIte]; exact k)) : AOps P G ro N ops (o :: rest) σ Q :=
 AOps.consC hd fun K hK => hg (h K hK)
theorem dn {xs : Exc} {acc : List Foot} {Q : St → Prop} (hg : o.guard = none) (h : ∀ K : Foot → St → Prop, (∀ f σ1, DOps P G ro N xs ops Q rest (acc ++ [f]) σ1 → K f σ1) → OpX P G ro N xs o σ K) : DOps P G ro N xs ops Q (o :: rest) acc σ :=
 DOps.consC fun K hK => by unfold weF; rw [hg]; exact h K hK
theorem HandFn.pf {f : FuncId} {fn : Func} {c : Code} {args : List PV} {n : Nat} {e0 : List (Nat × PV)} {i e k : Nat} {l l' : List PD} {res : PV} (hf : P.funcs[f]? = some fn) (hn : fn.ntmps = n) (hl : l'.length = l.length)
  (h : AWp P G none n c ⟨e0, [(i, ⟨e, k, dl l⟩)], [], none⟩ (Fin P G fn fun p K => p = res ∧ K = [(i, ⟨e, k, dl l'⟩)])) (hb : fn.body = some c := by rfl) (hN : args.length ≤ n := by simp)
  (he : wb8 0 args = e0 := by (simp only [wb8, Nat.reduceAdd, Nat.zero_add]; rfl)) : HandFn P G f args i e k l res l' := by
 subst hn he
 intro B φ vs h0 h1 h2 h3
 refine (Fn.intro hf hb hN h B φ vs h0 h1 h2 h3).mono ?_
 rintro e' w' ⟨v, p, H', g', φ', he, ⟨rfl, rfl⟩, hv, hs⟩
 exact ⟨v, _, _, g', φ', he, ⟨rfl, rfl, hl⟩, hv, hs⟩
theorem woZ {fn : Func} {p res : PV} {i e k : Nat} {l : List PD} (hp : whT P G fn.results.toList σ = some p := by (simp only [go_sem, ↓reduceIte]; rfl)) (hpr : p = res) (hh : σ.heap = [(i, ⟨e, k, dl l⟩)]) (hd : σ.dfr = [] := by first | exact True.intro | rfl) :
  Fin P G fn (fun p K => p = res ∧ K = [(i, ⟨e, k, dl l⟩)]) .ret σ := ⟨p, hp, hd, hpr, hh⟩
theorem wrR {α : Type} {H : wac} {r e k n : Nat} {f : α → PD} {L : List α} (h : waa H r = some ⟨e, k, dl (wab f L)⟩) : frzT H (.slc r 0 n) = some (.d (.imm k (wab f (L.take n)))) := by
 simp only [frzT, frz, h, dl_allD, Option.map_some, List.drop_zero, lenc_take]
variable {τ : St}
theorem sct (h2 : wc6 τ.heap σ.heap := by (repeat' (first | exact trivial | exact rfl | (simp only [List.length_append, List.length_set, List.length_replicate, List.length_cons, List.length_nil, Nat.zero_add]; exact rfl) | apply And.intro))) (h1 : wmq σ.heap τ.heap σ.env τ.env := by (repeat' (first | exact trivial | exact .inr ⟨_, wrR rfl, leV_refl _, wlY rfl⟩ | exact .inr ⟨.dptr _ _ _ _, rfl, leV_refl _, wlX rfl⟩ | exact .inl ⟨leV_refl _, by first | exact trivial | exact rfl | (simp only [go_sem, ↓reduceIte]; done)⟩ | exact .inl ⟨woV _ _, trivial⟩ | exact .inr ⟨_, wp4 rfl (by first | rfl | (simp only [List.length_append, List.length_set, List.length_replicate, List.length_cons, List.length_nil, Nat.zero_add]; done)), leV_refl _, wlY rfl⟩ | exact .inr ⟨.dptr _ _ _ _, rfl, leV_refl _, wlX rfl⟩ | exact .inl ⟨wsj (by simp only [List.length_append, List.length_set, List.length_replicate, List.length_cons, List.length_nil, Nat.zero_add]; done), rfl⟩ | exact .inl ⟨by (simp only [leV]; exact wi4 _ _), trivial⟩ | exact .inr ⟨_, by (simp only [go_sem, List.take_length, List.length_append, List.length_set, List.length_replicate, ↓reduceIte]; first | done | rfl), by (first | exact leV_refl _ | (simp only [go_sem, leV, leVL, leD, leDL, wd8, leD_refl, leDL_refl, ↓reduceIte]; done)), by (intro r hr; simp only [go_sem, rowsOf, rowsOfL, List.mem_cons, List.not_mem_nil, or_false, List.append_nil, ↓reduceIte] at hr; first | done | (subst hr; rfl) | (rcases hr with rfl | rfl <;> rfl) | (rcases hr with rfl | rfl | rfl <;> rfl) | (rcases hr with rfl | rfl | rfl | rfl <;> rfl))⟩ | exact .inl ⟨by (simp only [go_sem, leV, leD, leDL, wd8, leD_refl, leDL_refl, wi4, ↓reduceIte]; done), trivial⟩ |
      exact .inr ⟨_, by (simp only [go_sem, List.take_length, List.length_append, List.length_set, List.length_replicate, ↓reduceIte]; first | done | rfl), by (first | exact leV_refl _ | (simp only [go_sem, leV, leVL, leD, leDL, wd8, leD_refl, leDL_refl, ↓reduceIte]; done)), by (intro r hr; simp only [go_sem, rowsOf, rowsOfL, List.mem_cons, List.not_mem_nil, or_false, List.append_nil, ↓reduceIte] at hr; first | done | (subst hr; rfl) | (rcases hr with rfl | rfl <;> rfl) | (rcases hr with rfl | rfl | rfl <;> rfl) | (rcases hr with rfl | rfl | rfl | rfl <;> rfl))⟩ | apply And.intro)))
    (h4 : wch τ.heap τ.heap := by (repeat' (first | exact trivial | exact wfz _ _ | exact rfl | apply And.intro | (simp only [go_sem, ↓reduceIte]; done)))) (h5 : σ.dfr = τ.dfr ∧ refsInL τ.heap τ.dfr ∧ σ.gh = τ.gh := by first | exact ⟨rfl, trivial, rfl⟩ | exact ⟨rfl, (by simp only [go_sem, whu, wcT, ↓reduceIte]), rfl⟩) : Sub G N σ τ := Sub.cv h2 h1 h4 h5
end
end Go.Pv

namespace Go.Pv
section
variable {P : Program} {G : List (Nat × PD)} {ro : Option Nat} {N : Nat} {σ σ' : St} {ops : Array Oper} {o : Oper} {rest : List Oper}
theorem dap {xs : Exc} {acc : List Foot} {f : Foot} {Q : St → Prop} (hg : o.guard = none) (h : ∀ K : Foot → St → Prop, K f σ' → OpX P G ro N xs o σ K) (h2 : DOps P G ro N xs ops Q rest (acc ++ [f]) σ') : DOps P G ro N xs ops Q (o :: rest) acc σ := by
 obtain ⟨f1, σ1, h3, rfl, rfl⟩ := h (fun f1 σ1 => f1 = f ∧ σ1 = σ') ⟨rfl, rfl⟩
 exact .step (DStep.plain hg h3) h2
end
end Go.Pv

namespace Go.Pv
def wdK {α : Type} [DecidableEq α] (a : α) : List α → Option Nat
 | [] => none
 | b :: l => if a = b then some 0 else (wdK a l).map (· + 1)
structure KeyEnc (P : Program) (kt : TypeId) {α : Type} [DecidableEq α] (enc : α → PD) (val : α → Value) : Prop where
 uniq : ∀ {w : World} {ok : Nat → Prop} {v : Value} {a : α}, RepD w ok v (enc a) → v = val a
 check : ∀ (w : World) (em : Bool) (a : α), (Instr.checkKey em 10000 kt (val a)).run P w = .ok () w
 find : ∀ (w : World) (a : α) (es : List MapEntry) (ks : List α), es.map (·.key) = ks.map val → (Instr.findKey kt (val a) es).run P w = .ok ((wdK a ks).map fun j => (j, (es.getD j default).val)) w
 stays : ∀ (w : World) (a : α), (Instr.keyThatStays (val a) (val a)).run P w = .ok (val a) w
theorem wmx {α : Type} [DecidableEq α] {d : TypeDesc} {val : α → Value} (h : ∀ a b, Instr.sameNow d (val a) (val b) = some (decide (a = b))) (a : α) : ∀ (es : List MapEntry) (ks : List α) (i : Nat), es.map (·.key) = ks.map val →
  Instr.findNow d (val a) es i = some ((wdK a ks).map fun j => (i + j, (es.getD j default).val))
 | [], ks, i, he => by
  have : ks = [] := by simpa using he.symm
  subst this; rfl
 | e :: es, [], i, he => by simp at he
 | e :: es, b :: ks, i, he => by
  simp only [List.map_cons, List.cons.injEq] at he
  simp only [Instr.findNow, he.1, h, wdK]
  by_cases hab : a = b
  ·simp [hab]
  ·simp only [hab, decide_false, if_false]
   rw [wmx h a es ks (i + 1) he.2]
   cases wdK a ks with
   | none => rfl
   | some j => simp [Nat.add_comm, Nat.add_left_comm]
theorem KeyEnc.plain {P : Program} {kt : TypeId} {d : TypeDesc} {α : Type} [DecidableEq α] {enc : α → PD} {val : α → Value} (hk : P.underlying kt = some d) (hik : ∀ a, MapKept.IsKey d (val a)) (hu : ∀ {w : World} {ok : Nat → Prop} {v : Value} {a : α}, RepD w ok v (enc a) → v = val a)
  (h : ∀ a b, Instr.sameNow d (val a) (val b) = some (decide (a = b))) : KeyEnc P kt enc val where
 uniq := hu
 check w em a := MapKept.run_checkKey hk (hik a) em 9999
 find w a es ks he := by
  have := wmx h a es ks 0 he
  rw [MapKept.run_findKey hk this]
  simp
 stays w a := MapKept.run_keyThatStays (hik a)
theorem KeyEnc.int {P : Program} {kt : TypeId} {k : IntKind} (hk : P.underlying kt = some (.int k)) : KeyEnc P kt (PD.int k) (Value.int k) :=
 .plain hk (fun a => by simp [MapKept.IsKey]) (fun h => wjj h) fun a b => by
  simp only [Instr.sameNow, if_true]
  by_cases h : a = b <;> simp [h]
theorem KeyEnc.str {P : Program} {kt : TypeId} (hk : P.underlying kt = some .string) : KeyEnc P kt PD.str Value.string :=
 .plain hk (fun a => by simp [MapKept.IsKey]) (fun h => woE h) fun a b => by
  simp only [Instr.sameNow]
  congr 1
  rw [beq_toListBytes, Bool.eq_iff_iff, beq_iff_eq, decide_eq_true_iff]
  constructor
  ·intro h
   have h2 : a.data = b.data := by rw [ByteArray.toList_eq, ByteArray.toList_eq] at h; exact Array.toList_inj.1 h
   cases a; cases b; simpa using h2
  ·rintro rfl; rfl
section
variable {P : Program} {w : World}
theorem wj5 {α : Type} [DecidableEq α] {kt : TypeId} {val : α → Value} (h : ∀ a b, (Op.equal kt (val a) (val b)).run P w = .ok (decide (a = b)) w) (a : α) : ∀ (es : List MapEntry) (ks : List α) (i : Nat), es.map (·.key) = ks.map val →
  (Instr.findAsking kt (val a) es i).run P w = .ok ((wdK a ks).map fun j => (i + j, (es.getD j default).val)) w
 | [], ks, i, he => by
  have : ks = [] := by simpa using he.symm
  subst this; simp [Instr.findAsking, wdK]
 | e :: es, [], i, he => by simp at he
 | e :: es, b :: ks, i, he => by
  simp only [List.map_cons, List.cons.injEq] at he
  simp only [Instr.findAsking, he.1, Sem.run_bind, h, Result.andThen_ok, wdK]
  by_cases hab : a = b
  ·simp [hab]
  ·simp only [hab, decide_false, if_false, Bool.false_eq_true]
   rw [wj5 h a es ks (i + 1) he.2]
   cases wdK a ks with
   | none => rfl
   | some j => simp [Nat.add_comm, Nat.add_left_comm]
theorem wkI {e : TypeId} {k : IntKind} (he : P.underlying e = some (.int k)) (d : Nat) (l m : List Int) : ∀ is : List Nat, (∀ i ∈ is, i < l.length ∧ i < m.length) →
  (Op.eqItems (d + 1) e 1 ((l.map (Value.int k)).toArray) ((m.map (Value.int k)).toArray) is).run P w = .ok (is.all fun i => decide (l[i]? = m[i]?)) w
 | [], _ => by simp [Op.eqItems]
 | i :: is, h => by
  obtain ⟨h1, h2⟩ := h i (by simp)
  have hp : P.plainKey e = true := by simp [Program.plainKey, he]
  have e1 : (part e ((l.map (Value.int k)).toArray) (i * 1)).run P w = .ok (.int k l[i]) w := run_part_plain w hp (by simp [h1])
  have e2 : (part e ((m.map (Value.int k)).toArray) (i * 1)).run P w = .ok (.int k m[i]) w := run_part_plain w hp (by simp [h2])
  have e3 := run_equalIn_int (P := P) w d e k k l[i] m[i] (by simp [he])
  simp only [Op.eqItems, Sem.run_bind, e1, e2, e3, Result.andThen_ok, List.all_cons, List.getElem?_eq_getElem h1, List.getElem?_eq_getElem h2, Option.some.injEq]
  by_cases hab : l[i] = m[i]
  ·simp only [hab, beq_self_eq_true, Bool.not_true, Bool.false_eq_true, if_false, decide_true, Bool.true_and]
   exact wkI he d l m is fun j hj => h j (by simp [hj])
  ·simp [hab]
theorem woj {kt e : TypeId} {k : IntKind} {n : Nat} {i : TypeInfo} (hk : P.underlying kt = some (.array n e)) (hi : P.info? e = some i) (hs : i.size = 1) (he : P.underlying e = some (.int k)) (em : Bool) (d : Nat) (l : List Int) (hl : l.length = n) :
    (Instr.checkKey em (d + 2) kt (.agg ((l.map (Value.int k)).toArray))).run P w = .ok () w := by
  have hp : P.plainKey e = true := by simp [Program.plainKey, he]
  have hsz : (sizeOf e).run P w = .ok 1 w := by simp [sizeOf, typeInfo, Sem.run_bind, program, Sem.run, hi, hs, Result.andThen]
  rw [Instr.checkKey]
  simp only [Sem.run_bind, run_underlying hk, Result.andThen_ok]
  simp only [Std.Legacy.Range.forIn_eq_forIn_range', Std.Legacy.Range.size, Nat.sub_zero, Nat.add_one_sub_one, Nat.div_one]
  have hall : ∀ is : List Nat, (∀ j ∈ is, j < l.length) → (forIn is PUnit.unit (fun j _ => do
        let s ← sizeOf e
        let v ← part e ((l.map (Value.int k)).toArray) (j * s)
        Instr.checkKey em (d + 1) e v
        pure (ForInStep.yield PUnit.unit)) : Sem PUnit).run P w = .ok PUnit.unit w := by
    intro is
    induction is with
    | nil => intro _; simp
    | cons j is ih =>
      intro h
      have h1 := h j (by simp)
      have e1 : (part e ((l.map (Value.int k)).toArray) (j * 1)).run P w = .ok (.int k l[j]) w := run_part_plain w hp (by simp [h1])
      have e2 : (Instr.checkKey em (d + 1) e (.int k l[j])).run P w = .ok () w := MapKept.run_checkKey he (by simp [MapKept.IsKey]) em d
      simp only [List.forIn_cons, Sem.run_bind, hsz, Result.andThen_ok, e1, e2, Sem.run_pure]
      exact ih fun j hj => h j (by simp [hj])
  have := hall (List.range' 0 n) (fun j hj => by simp at hj; omega)
  rw [this]; rfl
theorem KeyEnc.ints {kt e : TypeId} {k : IntKind} {n : Nat} {i : TypeInfo} (hk : P.underlying kt = some (.array n e)) (hi : P.info? e = some i) (hs : i.size = 1) (he : P.underlying e = some (.int k)) {α : Type} [DecidableEq α] (toL : α → List Int) (hn : ∀ a, (toL a).length = n) (hj : ∀ a b, toL a = toL b → a = b) :
  KeyEnc P kt (fun a => PD.agg ((toL a).map (PD.int k))) (fun a => Value.agg ((toL a).map (Value.int k)).toArray) where
 uniq {w ok v a} h := by
  cases h with
  | @agg vs _ hs h hf =>
   refine congrArg Value.agg (Array.ext (by simpa using hs) fun j h1 h2 => ?_)
   ·have h3 : j < (toL a).length := by simpa using h2
    have := h j (by simpa using h3)
    simp only [List.getElem_map] at this
    have := wjj this
    simp only [Array.getD, h1, dite_true] at this
    simpa using this
 check w em a := woj hk hi hs he em 9998 (toL a) (hn a)
 find w a es ks hes := by
  have hc : P.cellsOf e = 1 := by simp [Program.cellsOf, hi, hs]
  have heq : ∀ a b, (Op.equal kt (.agg ((toL a).map (Value.int k)).toArray) (.agg ((toL b).map (Value.int k)).toArray)).run P w = .ok (decide (a = b)) w := fun a b => by
   have h1 := run_equalIn_array (P := P) (w := w) 9999 ((toL a).map (Value.int k)).toArray ((toL b).map (Value.int k)).toArray hk hi
   rw [hc] at h1
   have h2 := wkI (P := P) (w := w) he 9998 (toL a) (toL b) (List.range n) (fun i hi => by rw [hn, hn]; simpa using hi)
   rw [h2] at h1
   refine h1.trans ?_
   congr 1
   rw [Bool.eq_iff_iff, List.all_eq_true, decide_eq_true_iff]
   constructor
   ·intro h
    refine hj a b (List.ext_getElem? fun j => ?_)
    by_cases hjn : j < n
    ·simpa using h j (by simpa using hjn)
    ·rw [List.getElem?_eq_none (by rw [hn]; omega), List.getElem?_eq_none (by rw [hn]; omega)]
   ·rintro rfl j _; simp
  rw [run_findKey_eq w (by simp [hk])]
  have := wj5 (P := P) (w := w) (val := fun a => Value.agg ((toL a).map (Value.int k)).toArray) heq a es ks 0 hes
  simpa using this
 stays w a := by
  have h : ∀ l : List Int, Instr.sameBits 10000 (.agg ((l.map (Value.int k)).toArray)) (.agg ((l.map (Value.int k)).toArray)) = true := fun l => by
   simp only [Instr.sameBits, beq_self_eq_true, Bool.true_and, List.all_eq_true]
   rintro ⟨x, y⟩ hxy
   have : x = y ∧ ∃ n, x = Value.int k n := by
    simp only [List.zip_map', List.mem_map] at hxy
    simp at hxy
    obtain ⟨z, _, h1, h2⟩ := hxy
    exact ⟨h1.symm.trans h2, z, h1.symm⟩
   obtain ⟨rfl, n, rfl⟩ := this
   simp [Instr.sameBits]
  simp only [Instr.keyThatStays, h, if_true, Sem.run_pure]
end
def wjK {α β : Type} (encK : α → PD) (encV : β → PD) (e : α × β) : PV := .tuple [.d (encK e.1), .d (encV e.2)]
def wap {α β : Type} (encK : α → PD) (encV : β → PD) (L : List (α × β)) : List PV := L.map (wjK encK encV)
def wdt {α β : Type} [DecidableEq α] (a : α) (b : β) : List (α × β) → List (α × β)
 | [] => [(a, b)]
 | e :: l => if a = e.1 then (a, b) :: l else e :: wdt a b l
def waP {α β : Type} [DecidableEq α] (a : α) : List (α × β) → Option β
 | [] => none
 | e :: l => if a = e.1 then some e.2 else waP a l
theorem wnQ {α β : Type} [DecidableEq α] (a a' : α) (b : β) : ∀ l : List (α × β), waP a' (wdt a b l) = if a' = a then some b else waP a' l
 | [] => by simp only [wdt, waP]
 | e :: l => by
  simp only [wdt]
  split
  ·rename_i h
   simp only [waP]
   split
   ·rfl
   ·rename_i h2; rw [if_neg (by rw [← h]; exact h2)]
  ·rename_i h
   simp only [waP, wnQ a a' b l]
   by_cases h2 : a' = e.1
   ·rw [if_pos h2, if_pos h2, if_neg (by rw [h2]; exact fun e => h e.symm)]
   ·rw [if_neg h2, if_neg h2]
theorem wmy {α β : Type} [DecidableEq α] (a : α) : ∀ l : List (α × β), waP a l = (wdK a (l.map Prod.fst)).bind fun j => (l[j]?).map Prod.snd
 | [] => rfl
 | e :: l => by
  simp only [waP, List.map_cons, wdK]
  split
  ·rfl
  ·rw [wmy a l]
   cases wdK a (l.map Prod.fst) with
   | none => rfl
   | some j => rfl
theorem wmz {α β : Type} [DecidableEq α] (a : α) (b : β) : ∀ l : List (α × β), wdt a b l = match wdK a (l.map Prod.fst) with | some j => l.set j (a, b) | none => l ++ [(a, b)]
 | [] => rfl
 | e :: l => by
  simp only [wdt, List.map_cons, wdK]
  split
  ·rfl
  ·rw [wmz a b l]
   cases wdK a (l.map Prod.fst) with
   | none => rfl
   | some j => rfl
theorem wl0 {α : Type} [DecidableEq α] {a : α} : ∀ {l : List α} {j : Nat}, wdK a l = some j → l[j]? = some a
 | [], j, h => by simp [wdK] at h
 | b :: l, j, h => by
  simp only [wdK] at h
  split at h
  ·rename_i e; simp only [Option.some.injEq] at h; subst h; subst e; rfl
  ·simp only [Option.map_eq_some_iff] at h
   obtain ⟨i, h1, rfl⟩ := h
   simpa using wl0 h1
section
variable {P : Program} {G : List (Nat × PD)} {ro : Option Nat} {N : Nat} {o : Oper} {σ : St} {K : St → Prop}
theorem wp5 {w : World} {X : Nat → Prop} {φ : Nm} {H : wac} {b e : Nat} {α β : Type} [DecidableEq α] {kt : TypeId} {encK : α → PD} {valK : α → Value} {encV : β → PD} {L : List (α × β)} (hK : KeyEnc P kt encK valK) (h : RowOk w X φ H b ⟨e, 0, wap encK encV L⟩) :
  ∃ es cl, w.heap[b]? = some (.map es cl) ∧ es.size = L.length ∧ es.toList.map (·.key) = (L.map Prod.fst).map valK ∧ ∀ j (hj : j < L.length), RepV w X φ H (es.toList.getD j default).val (.d (encV L[j].2)) := by
 obtain ⟨es, cl, h1, h2, h3⟩ := h.map rfl
 have hl : (wap encK encV L).length = L.length := by simp [wap]
 have waa : ∀ j (hj : j < L.length), (es.toList.getD j default).key = valK L[j].1 ∧ RepV w X φ H (es.toList.getD j default).val (.d (encV L[j].2)) := fun j hj => by
  have h4 := h3 j (by rw [hl]; exact hj)
  have e1 : (wap encK encV L)[j]'(by rw [hl]; exact hj) = .tuple [.d (encK L[j].1), .d (encV L[j].2)] := by simp [wap, wjK]
  have e0 : es.getD j default = es.toList.getD j default := by simp [Array.getD_eq_getD_getElem?]
  rw [e1, e0] at h4
  cases h4 with
  | tuple hs h5 =>
   have h6 := h5 0 (by simp)
   have h7 := h5 1 (by simp)
   exact ⟨hK.uniq (waL h6), h7⟩
 have h2' : es.size = L.length := by rw [h2]; simp [wap]
 refine ⟨es, cl, h1, h2', ?_, fun j hj => (waa j hj).2⟩
 apply List.ext_getElem
 ·simpa using h2'
 ·intro j hj1 hj2
  have hj : j < L.length := by simpa using hj2
  have := (waa j hj).1
  simp only [List.getElem_map]
  rw [← this]
  simp [List.getD, h2', hj]
theorem OpT.lookup {α β : Type} [DecidableEq α] {kt et t : TypeId} {x ix : Operand} {cok : Bool} {r e : Nat} {L : List (α × β)} {k : α} {v0 : β} {encK : α → PD} {valK : α → Value} {encV : β → PD} {y : Ty} {z : Value} (hK : KeyEnc P kt encK valK)
  (ho : o.op = .lookup t x ix cok) (ht : P.underlying t = some (.map kt et)) (hx : σ.eval x = .mp r) (hrow : waa σ.heap r = some ⟨e, 0, wap encK encV L⟩) (hi : σ.eval ix = .d (encK k)) (hy : wad P et = some y) (hz : y.zero = some z)
  (hzv : ∀ (w : World) (ok : Nat → Prop), RepD w ok z (encV v0)) (hd : wan N o.dst)
  (hk : K (σ.put o.dst (if cok then .tuple [.d (encV ((waP k L).getD v0)), .d (.bool (waP k L).isSome)] else .d (encV ((waP k L).getD v0))))) : OpT P G ro N o σ K := by
 intro B hro a w φ hr next Q hn
 have hxv := hr.eval x
 rw [hx] at hxv
 generalize hav : a.eval x = av at hxv
 cases hxv with | mp hx2 hb hk0 =>
 rename_i b x2
 rw [hrow] at hx2; cases hx2
 have hiv := hr.eval ix
 rw [hi] at hiv
 have hiv := hK.uniq (waL hiv)
 obtain ⟨es, cl, h1, h2, h3, h4⟩ := wp5 hK (hr.heap.rows r _ b hrow hb)
 have hf := hK.find w k es.toList (L.map Prod.fst) h3
 have hc := hK.check w es.isEmpty k
 have hzr := whD hy hz w
 obtain ⟨u, hu, hur⟩ : ∃ u : Value × Bool, (Instr.lookup t (a.eval x) (a.eval ix) cok).run P w = .ok (if cok then .tuple #[u.1, .bool u.2] else u.1) w ∧ RepV w B.X φ σ.heap u.1 (.d (encV ((waP k L).getD v0))) ∧ u.2 = (waP k L).isSome := by
  rw [wmy, hav, hiv]
  simp only [Instr.lookup, Sem.run_bind, run_underlying ht, Result.andThen_ok, MapKept.run_getObj_map h1, Sem.run_pure, hc, hf]
  cases hj : wdK k (L.map Prod.fst) with
  | none => exact ⟨(z, false), by simp only [Option.map_none, Sem.run_bind, hzr, Result.andThen_ok, Sem.run_pure], .d (hzv _ _), rfl⟩
  | some j =>
   have hjl : j < L.length := by
    have := wl0 hj
    obtain ⟨h, _⟩ := List.getElem?_eq_some_iff.1 this
    simpa using h
   refine ⟨((es.toList.getD j default).val, true), by simp only [Option.map_some, Sem.run_bind]; rfl, ?_, by simp [hjl]⟩
   have := h4 j hjl
   simpa [hjl] using this
 refine waI (u := if cok then .tuple #[u.1, .bool u.2] else u.1) (w' := w) ?_ (hn _ _ _ φ hk (hr.put hd ?_))
 ·rw [Oper.semAt_eq _ _ _ (fun c hc => by rw [ho] at hc; cases hc)]
  simp only [execOp, ho]
  exact wbz hu
 ·cases cok with
  | false => exact hur.1
  | true =>
   refine .tuple rfl fun i hi => ?_
   match i, hi with
   | 0, _ => exact hur.1
   | 1, _ => rw [← hur.2]; exact .d (.bool _)
theorem Rep.writeMap {B : Base P} {a : Act} {w : World} {φ : Nm} (hr : Rep G B N σ a w φ) {r b : Nat} {x : Row} (hx : waa σ.heap r = some x) (hb : φ r = some b) (hk0 : x.k = 0) {els : List PV} {es es' : Array MapEntry} {cl cl' : Nat} (hc : w.heap[b]? = some (.map es cl))
  (hs : es'.size = els.length) (he : ∀ i (hi : i < els.length), RepV w B.X φ σ.heap (.tuple #[(es'.getD i default).key, (es'.getD i default).val]) els[i]) :
  Rep G B N { σ with heap := waj σ.heap r { x with els := els } } a (w.putObj b (.map es' cl')) φ := by
 have hlt : b < w.heap.size := (Array.getElem?_eq_some_iff.1 hc).1
 have hself : (w.putObj b (.map es' cl')).heap[b]? = some (.map es' cl') := World.putObj_heap_same hlt
 have hoth : ∀ b', b' ≠ b → (w.putObj b (.map es' cl')).heap[b']? = w.heap[b']? := fun b' h => World.putObj_heap_other h
 have hz : (w.putObj b (.map es' cl')).heap.size = w.heap.size := World.putObj_size
 obtain ⟨w', hw'⟩ : ∃ w', w' = w.putObj b (.map es' cl') := ⟨_, rfl⟩
 have hos : w'.os = w.os ∧ w'.tape = w.tape ∧ w'.output = w.output := by subst hw'; exact ⟨rfl, rfl, rfl⟩
 rw [← hw'] at hself hoth hz ⊢
 have hown := fun b => woF (φ := φ) (x' := { x with els := els }) hx b
 have hbr : waC φ σ.heap b := ⟨r, x, hx, hb⟩
 have hbo : own φ σ.heap b := .inl hbr
 have hrow := fun b => wlS (φ := φ) (x' := { x with els := els }) hx b
 have hext : Ext w B.X φ σ.heap w' φ (waj σ.heap r { x with els := els }) := by
  refine ⟨fun s y h => ?_, fun b' h => ⟨by rw [hz]; exact h.1, h.2.1, fun ho => h.2.2 ((hown b').1 ho)⟩, fun b' h => ⟨by rw [hz]; exact h.1, fun ho => h.2 ((hown b').1 ho)⟩, fun b' h => ?_, fun s y b' h hb' c0 e0 f0 hh => ?_⟩
  ·by_cases hs : r = s
   ·subst hs; rw [hx] at h; simp only [Option.some.injEq] at h; subst h
    exact ⟨{ x with els := els }, by rw [wag]; simp, rfl, fun hk => by omega, rfl⟩
   ·exact ⟨y, by rw [wag, if_neg hs]; exact h, rfl, fun _ => rfl, rfl⟩
  ·exact hoth b' (fun he => h.2 (he ▸ hbo))
  ·by_cases hbb : b' = b
   ·subst hbb; rw [hself] at hh; cases hh
   ·rw [hoth b' hbb] at hh; exact ⟨c0, e0, f0, hh, rfl⟩
 refine ⟨hr.size, fun t => (hr.env t).ext hext, ⟨fun s y b' hs' hb' => ?_, fun s y hs' hb' => ?_, fun s t y z b' hs' ht hb' hb2 => ?_, fun b' hT => ⟨hz ▸ (hr.heap.far b' hT).1, (hr.heap.far b' hT).2.1, fun h => (hr.heap.far b' hT).2.2 ((hrow b').1 h)⟩⟩,
  ⟨hos.1.trans hr.keeps.os, hos.2.1.trans hr.keeps.tape, hos.2.2.trans hr.keeps.output, by rw [hz]; exact hr.keeps.size, ?_⟩, fun s y b' hs' hb' => ?_, fun s y hs' hp => ?_, fun s y b' hs' hp hb' => ?_, ?_, hr.tnew,
  wdW (w := w) (φ := φ) (H := σ.heap) hr.inv rfl hos.1 hos.2.1 hos.2.2 (by rw [hz]; exact Nat.le_refl _) (fun b' h1 h2 => hoth b' fun e => h2 (e ▸ hbr)) (fun b' h => .inl ((hrow b').1 h)), hr.dfr.ext hext⟩
 ·rw [wag] at hs'
  by_cases h : r = s
  ·subst h
   rw [if_pos rfl] at hs'; simp only [Option.some.injEq] at hs'; subst hs'
   rw [hb] at hb'; simp only [Option.some.injEq] at hb'; subst hb'
   refine ⟨fun hk => absurd hk (by rw [show x.k = 0 from hk0]; omega), fun _ => ⟨es', cl', hself, hs, fun i hi => (he i hi).ext hext⟩, (hr.heap.rows r x b hx hb).free⟩
  ·rw [if_neg h] at hs'
   have hne : b' ≠ b := fun e => h ((hr.heap.inj s r y x b' hs' hx hb' (e ▸ hb)).symm)
   exact (hr.heap.rows s y b' hs' hb').ext hext (hoth b' hne)
 ·rw [wag] at hs'
  by_cases h : r = s
  ·subst h; rw [hb] at hb'; cases hb'
  ·rw [if_neg h] at hs'; exact hr.heap.void s y hs' hb'
 ·rw [wag] at hs' ht
  have : ∀ s y, (if r = s then some ({ x with els := els } : Row) else waa σ.heap s) = some y → ∃ y', waa σ.heap s = some y' := fun s y h => by
   split at h
   ·rename_i e; exact ⟨x, e ▸ hx⟩
   ·exact ⟨y, h⟩
  obtain ⟨y', h1⟩ := this s y hs'
  obtain ⟨z', h2⟩ := this t z ht
  exact hr.heap.inj s t y' z' b' h1 h2 hb' hb2
 ·intro b' hb' ho
  refine (hoth b' (fun e => ?_)).trans (hr.keeps.block b' hb' ho)
  subst e
  rcases hr.new r x b' hx hb with h | h
  ·exact ho h
  ·omega
 ·rw [wag] at hs'
  split at hs'
  ·rename_i e; subst e; exact hr.new r x b' hx hb'
  ·exact hr.new s y b' hs' hb'
 ·rw [wag] at hs'
  split at hs'
  ·rename_i e; subst e; exact hr.pins r x hx hp
  ·exact hr.pins s y hs' hp
 ·rw [wag] at hs'
  have hcz : csz w' b' = csz w b' := by
   by_cases hbb : b' = b
   ·subst hbb; unfold csz; rw [hself, hc]
   ·exact wem (hoth b' hbb)
  rw [hcz]
  split at hs'
  ·rename_i e; subst e; exact hr.psz r x b' hx hp hb'
  ·exact hr.psz s y b' hs' hp hb'
 ·exact hr.glob.ext hext (fun g y hm => by obtain ⟨_, _, _, _, _, h2, _⟩ := hr.glob g y hm; exact fun ho => h2 ((hown g).1 ho))
theorem OpT.mapSet {α β : Type} [DecidableEq α] {kt et t : TypeId} {m ix x : Operand} {r e : Nat} {L : List (α × β)} {k : α} {v : β} {encK : α → PD} {valK : α → Value} {encV : β → PD} (hK : KeyEnc P kt encK valK)
  (ho : o.op = .mapUpdate t m ix x ∨ o.op = .insert t m ix x) (ht : P.underlying t = some (.map kt et)) (hx : σ.eval m = .mp r) (hrow : waa σ.heap r = some ⟨e, 0, wap encK encV L⟩) (hi : σ.eval ix = .d (encK k)) (hv : σ.eval x = .d (encV v)) (hd : wan N o.dst)
  (hk : K (({ σ with heap := waj σ.heap r ⟨e, 0, wap encK encV (wdt k v L)⟩ } : St).put o.dst .any)) : OpT P G ro N o σ K := by
 intro B hro a w φ hr next Q hn
 have hxv := hr.eval m
 rw [hx] at hxv
 generalize hav : a.eval m = av at hxv
 cases hxv with | mp hx2 hb hk0 =>
 rename_i b x2
 rw [hrow] at hx2; cases hx2
 have hiv := hr.eval ix
 rw [hi] at hiv
 have hir := hiv
 have hiv := hK.uniq (waL hiv)
 have hvv := hr.eval x
 rw [hv] at hvv
 obtain ⟨es, cl, h1, h2, h3, h4⟩ := wp5 hK (hr.heap.rows r _ b hrow hb)
 have hf := hK.find w k es.toList (L.map Prod.fst) h3
 have hc := hK.check w false k
 have hst := hK.stays w k
 have hkey : ∀ j (hj : j < L.length), (es.toList.getD j default).key = valK L[j].1 := fun j hj => by
  have e1 := congrArg (fun l => l[j]?) h3
  simp only [List.getElem?_map] at e1
  have hj' : j < es.toList.length := by simpa [h2] using hj
  rw [List.getElem?_eq_getElem hj', List.getElem?_eq_getElem hj] at e1
  simp only [Option.map_some, Option.some.injEq] at e1
  simpa [List.getD, h2, hj] using e1
 have hold : ∀ j (hj : j < L.length), RepV w B.X φ σ.heap (.tuple #[(es.toList.getD j default).key, (es.toList.getD j default).val]) (wjK encK encV L[j]) := fun j hj => by
  obtain ⟨es2, cl2, h5, h6, h7⟩ := (hr.heap.rows r _ b hrow hb).map rfl
  rw [h1] at h5; cases h5
  have h8 := h7 j (by simpa [wap] using hj)
  simpa [wap, Array.getD_eq_getD_getElem?] using h8
 have hnew : RepV w B.X φ σ.heap (.tuple #[a.eval ix, a.eval x]) (wjK encK encV (k, v)) := by
  refine .tuple rfl fun i hi => ?_
  match i, hi with
  | 0, _ => exact hir
  | 1, _ => exact hvv
 obtain ⟨es', cl', hrun, hs', he'⟩ : ∃ es' cl', (Instr.mapUpdate t (a.eval m) (a.eval ix) (a.eval x)).run P w = .ok () (w.putObj b (.map es' cl')) ∧ es'.size = (wap encK encV (wdt k v L)).length ∧
   ∀ i (hi : i < (wap encK encV (wdt k v L)).length), RepV w B.X φ σ.heap (.tuple #[(es'.getD i default).key, (es'.getD i default).val]) (wap encK encV (wdt k v L))[i] := by
  rw [hav]
  simp only [Instr.mapUpdate, Sem.run_bind, run_underlying ht, Result.andThen_ok, MapKept.run_getObj_map h1]
  rw [hiv, hc, Result.andThen_ok, hf]
  rw [wmz]
  cases hj : wdK k (L.map Prod.fst) with
  | none =>
   refine ⟨es.push { key := valK k, val := a.eval x, born := cl }, cl + 1, by simp only [Option.map_none, Result.andThen_ok, MapKept.run_setObj_map _ h1]; rfl, by simp [wap, h2], fun i hi => ?_⟩
   have hi' : i < L.length + 1 := by simpa [wap] using hi
   by_cases hil : i < L.length
   ·have := hold i hil
    simpa [wap, Array.getD_eq_getD_getElem?, Array.getElem?_push, h2, hil, Nat.ne_of_lt hil, List.getElem_append] using this
   ·have : i = L.length := by omega
    subst this
    rw [hiv] at hnew
    have hg : (es.push { key := valK k, val := a.eval x, born := cl }).getD L.length default = { key := valK k, val := a.eval x, born := cl } := by
     rw [← h2]; simp [Array.getD_eq_getD_getElem?]
    rw [hg]
    simpa [wap, List.getElem_append] using hnew
  | some j =>
   have hjk := wl0 hj
   have hjl : j < L.length := by obtain ⟨h, _⟩ := List.getElem?_eq_some_iff.1 hjk; simpa using h
   have hkj : ((es[j]?).map (·.key)).getD (valK k) = valK k := by
    have e1 := hkey j hjl
    have e2 : L[j].1 = k := by simpa [hjl] using hjk
    rw [e2] at e1
    simpa [h2, hjl, List.getD] using e1
   refine ⟨es.modify j fun e => { e with key := valK k, val := a.eval x }, cl, by simp only [Option.map_some, Result.andThen_ok, Sem.run_bind, hkj, hst, MapKept.run_setObj_map _ h1]; rfl, by simp [wap, h2], fun i hi => ?_⟩
   have hi' : i < L.length := by simpa [wap] using hi
   by_cases hij : i = j
   ·subst hij
    rw [hiv] at hnew
    have hg : (es.modify i fun e => { e with key := valK k, val := a.eval x }).getD i default = { es.getD i default with key := valK k, val := a.eval x } := by
     simp [Array.getD_eq_getD_getElem?, h2, hi', Array.getElem_modify]
    rw [hg]
    simpa [wap] using hnew
   ·have := hold i hi'
    have hg : (es.modify j fun e => { e with key := valK k, val := a.eval x }).getD i default = es.toList.getD i default := by
     simp [Array.getD_eq_getD_getElem?, Array.getElem?_modify, Ne.symm hij]
    rw [hg]
    simpa [wap, List.getElem_set_ne (Ne.symm hij)] using this
 have hrep := hr.writeMap hrow hb rfl h1 (cl' := cl') hs' he'
 refine wjn (w' := w.putObj b (.map es' cl')) ?_ (hn _ _ _ φ hk (hrep.put hd (.any _)))
 rw [Oper.semAt_eq _ _ _ (fun c hc => by rcases ho with ho | ho <;> (rw [ho] at hc; cases hc))]
 rcases ho with ho | ho
 all_goals
  unfold execOp
  simp only [ho]
  rw [Sem.run_bind, hrun]; rfl
theorem Rep.new_map {B : Base P} {a : Act} {w : World} {φ : Nm} (hr : Rep G B N σ a w φ) {e r : Nat} (hr0 : waa σ.heap r = none) (hp : 1000 ≤ r) :
  Rep G B N { σ with heap := waj σ.heap r ⟨e, 0, []⟩ } a (w.alloc (.map #[] 0)) (upd φ r (some w.heap.size)) ∧
  RepV (w.alloc (.map #[] 0)) B.X (upd φ r (some w.heap.size)) (waj σ.heap r ⟨e, 0, []⟩) (.map (some w.heap.size)) (.mp r) := by
 have hne : ∀ s y, waa σ.heap s = some y → s ≠ r := fun s y h he => by rw [he, hr0] at h; cases h
 have hX : ¬ B.X w.heap.size := fun h => absurd (B.hX _ h) (Nat.not_lt.2 hr.keeps.size)
 have hrow' : ∀ b, waC (upd φ r (some w.heap.size)) (waj σ.heap r ⟨e, 0, []⟩) b → waC φ σ.heap b ∨ b = w.heap.size := by
  rintro b ⟨s, y, h1, h2⟩
  rw [wag] at h1
  by_cases hs : s = r
  ·subst hs; simp [upd] at h2; exact .inr h2.symm
  ·rw [if_neg (Ne.symm hs)] at h1; simp only [upd, hs, if_false] at h2; exact .inl ⟨s, y, h1, h2⟩
 have hrow : ∀ b, b < w.heap.size → waC (upd φ r (some w.heap.size)) (waj σ.heap r ⟨e, 0, []⟩) b → waC φ σ.heap b := fun b hb h => by
  rcases hrow' b h with h | h
  ·exact h
  ·omega
 have hext : Ext w B.X φ σ.heap (w.alloc (.map #[] 0)) (upd φ r (some w.heap.size)) (waj σ.heap r ⟨e, 0, []⟩) := by
  have hown : ∀ b, b < w.heap.size → own (upd φ r (some w.heap.size)) (waj σ.heap r ⟨e, 0, []⟩) b → own φ σ.heap b := by
   rintro b hb (hrw | hT)
   ·exact .inl (hrow b hb hrw)
   ·exact .inr hT
  refine ⟨fun s y h => ⟨y, by rw [wag, if_neg (Ne.symm (hne s y h))]; exact h, rfl, fun _ => rfl, by simp [upd, hne s y h]⟩, fun b h => ⟨by simp; have := h.1; omega, h.2.1, fun ho => h.2.2 (hown b h.1 ho)⟩,
   fun b h => ⟨by simp; have := h.1; omega, fun ho => h.2 (hown b h.1 ho)⟩, fun b h => heap_alloc_old w _ h.1, fun s y b h hb c' e' f' hh => ⟨c', e', f', ?_, rfl⟩⟩
  rw [heap_alloc_old w _ (hr.heap.lt h hb)] at hh
  exact hh
 refine ⟨⟨hr.size, fun t => (hr.env t).ext hext, ⟨fun s y b hs hb => ?_, fun s y hs hb => ?_, fun s t y z b hs ht hb hb' => ?_, fun b hT => ?_⟩, ?_, fun s y b hs hb => ?_, fun s y hs hpin => ?_, fun s y b hs hpin hb => ?_, ?_, hr.tnew, ?_, hr.dfr.ext hext⟩, ?_⟩
 ·rw [wag] at hs
  by_cases h : s = r
  ·subst h
   simp only [if_true, Option.some.injEq] at hs
   subst hs
   simp only [upd, if_true, Option.some.injEq] at hb
   subst hb
   exact ⟨fun hk => absurd hk (by show ¬ 1 ≤ 0; omega), fun _ => ⟨#[], 0, heap_alloc_new w _, rfl, fun i hi => by simp at hi⟩, hX⟩
  ·rw [if_neg (Ne.symm h)] at hs
   simp only [upd, h, if_false] at hb
   exact (hr.heap.rows s y b hs hb).ext hext (heap_alloc_old w _ (hr.heap.lt hs hb))
 ·rw [wag] at hs
  by_cases h : s = r
  ·subst h; simp [upd] at hb
  ·rw [if_neg (Ne.symm h)] at hs
   simp only [upd, h, if_false] at hb
   exact hr.heap.void s y hs hb
 ·rw [wag] at hs ht
  by_cases h : s = r <;> by_cases h' : t = r
  ·rw [h, h']
  ·subst h
   rw [if_neg (Ne.symm h')] at ht
   simp only [upd, h', if_false, if_true, Option.some.injEq] at hb hb'
   have := hr.heap.lt ht hb'; omega
  ·subst h'
   rw [if_neg (Ne.symm h)] at hs
   simp only [upd, h, if_false, if_true, Option.some.injEq] at hb hb'
   have := hr.heap.lt hs hb; omega
  ·rw [if_neg (Ne.symm h)] at hs
   rw [if_neg (Ne.symm h')] at ht
   simp only [upd, h, h', if_false] at hb hb'
   exact hr.heap.inj s t y z b hs ht hb hb'
 ·obtain ⟨h1, h2, h3⟩ := hr.heap.far b hT
  exact ⟨by simp; omega, h2, fun h => h3 (hrow b h1 h)⟩
 ·exact hr.keeps.trans ⟨rfl, rfl, rfl, by simp, fun b hb _ => heap_alloc_old w _ hb⟩
 ·rw [wag] at hs
  by_cases h : s = r
  ·subst h; simp only [upd, if_true, Option.some.injEq] at hb; subst hb; exact .inr hr.keeps.size
  ·rw [if_neg (Ne.symm h)] at hs; simp only [upd, h, if_false] at hb; exact hr.new s y b hs hb
 ·rw [wag] at hs
  have hlt : s < 1000 := by simpa [pinned] using hpin
  have h : s ≠ r := by omega
  rw [if_neg (Ne.symm h)] at hs
  simp only [upd, h, if_false]
  exact hr.pins s y hs hpin
 ·rw [wag] at hs
  have hlt : s < 1000 := by simpa [pinned] using hpin
  have h : s ≠ r := by omega
  rw [if_neg (Ne.symm h)] at hs
  simp only [upd, h, if_false] at hb
  exact (wem (heap_alloc_old w _ (hr.heap.lt hs hb))).trans (hr.psz s y b hs hpin hb)
 ·refine hr.glob.ext hext (fun g y hm => ?_)
  obtain ⟨c', e', f', v', h1, h2, _⟩ := hr.glob g y hm
  have hlt : g < w.heap.size := (Array.getElem?_eq_some_iff.1 h1).1
  rintro (h3 | h3)
  ·exact h2 (.inl (hrow g hlt h3))
  ·exact h2 (.inr h3)
 ·refine wdW (w := w) (φ := φ) (H := σ.heap) hr.inv rfl rfl rfl rfl (by simp) (fun b hb _ => heap_alloc_old w _ hb) (fun b hb => ?_)
  rcases hrow' b hb with h | h
  ·exact .inl h
  ·exact .inr (by omega)
 ·exact .mp (by rw [wag]; simp; rfl) (by simp [upd]) rfl
theorem OpT.makeMap {t : TypeId} {r0 : Nat} (ho : o.op = .makeMap t none) (hd : wan N o.dst) (hr0 : waa σ.heap r0 = none) (hp0 : 1000 ≤ r0)
  (hK : K (({ σ with heap := waj σ.heap r0 ⟨t, 0, []⟩ } : St).put o.dst (.mp r0))) : OpT P G ro N o σ K := by
 intro B hro a w φ hr next Q hn
 obtain ⟨h1, h2⟩ := hr.new_map (e := t) hr0 hp0
 refine waI (u := .map (some w.heap.size)) (w' := w.alloc (.map #[] 0)) ?_ (hn _ _ _ _ hK (h1.put hd h2))
 rw [Oper.semAt_eq _ _ _ (fun c hc => by rw [ho] at hc; cases hc)]
 simp only [execOp, ho, Option.map_none]
 exact wbz rfl
end
end Go.Pv

namespace Go.Pv
def wbA (gs : List Nat) : wac → wac
 | [] => []
 | (r, x) :: l => if gs.contains r = true then wbA gs l else (r, x) :: wbA gs l
theorem wgx (gs : List Nat) : ∀ (H : wac) (s : Nat), waa (wbA gs H) s = if s ∈ gs then none else waa H s
 | [], s => by simp [wbA, waa]
 | (r, x) :: l, s => by
  simp only [wbA]
  by_cases hr : gs.contains r = true
  ·rw [if_pos hr, wgx gs l s]
   by_cases hs : s ∈ gs
   ·simp [hs]
   ·simp only [hs, if_false, waa]
    rw [if_neg (fun e => hs (by subst e; simpa using hr))]
  ·rw [if_neg hr]
   simp only [waa, wgx gs l s]
   by_cases hrs : r = s
   ·subst hrs
    have : ¬ r ∈ gs := by simpa using hr
    simp [this]
   ·simp [hrs]
structure ExtU (gs : List Nat) (w : World) (X : Nat → Prop) (φ : Nm) (H : wac) (w' : World) (φ' : Nm) (H' : wac) : Prop where
 dom : ∀ s x, s ∉ gs → waa H s = some x → ∃ x', waa H' s = some x' ∧ x'.k = x.k ∧ (1 ≤ x.k → x'.els.length = x.els.length) ∧ φ' s = φ s
 okd : ∀ b, okd w X φ H b → okd w' X φ' H' b
 okb : ∀ b, okb w φ H b → okb w' φ' H' b
 blk : ∀ b, Pv.okb w φ H b → w'.heap[b]? = w.heap[b]?
 sz : ∀ s x b, s ∉ gs → waa H s = some x → φ s = some b → ∀ c e f, w'.heap[b]? = some (.cells c e f) → ∃ c0 e0 f0, w.heap[b]? = some (.cells c0 e0 f0) ∧ c0.size = c.size
theorem RepV.extU {gs : List Nat} {w w' : World} {X : Nat → Prop} {φ φ' : Nm} {H H' : wac} (h : ExtU gs w X φ H w' φ' H') {v : Value} {p : PV} (hv : RepV w X φ H v p) : (∀ r ∈ rowsOf p, r ∉ gs) → RepV w' X φ' H' v p := by
 induction hv with
 | any v => intro _; exact .any v
 | d hd => intro _; exact .d (hd.mono h.okd (fun b hb => h.blk b (wco hb)))
 | b hd => intro _; exact .b (hd.mono h.okb h.blk)
 | ptr hx hb hk =>
  intro hg
  obtain ⟨x', h1, h2, _, h4⟩ := h.dom _ _ (hg _ (by simp [rowsOf])) hx
  rw [← h2]
  exact .ptr h1 (h4.trans hb) (h2 ▸ hk)
 | dptr hd hi => intro _; exact .dptr (hd.mono h.okd (fun b hb => h.blk b (wco hb))) hi
 | bptr hd hi => intro _; exact .bptr (hd.mono h.okb h.blk) hi
 | glob g => intro _; exact .glob g
 | val hf => intro _; exact .val hf
 | slc hx hb hk hn hc hl hz =>
  intro hg
  obtain ⟨x', h1, h2, h3, h4⟩ := h.dom _ _ (hg _ (by simp [rowsOf])) hx
  have h3 := h3 hk
  rw [← h2]
  refine .slc h1 (h4.trans hb) (h2 ▸ hk) (h3 ▸ hn) hc (h3 ▸ hl) (fun c e f hh => ?_)
  obtain ⟨c0, e0, f0, h5, h6⟩ := h.sz _ _ _ (hg _ (by simp [rowsOf])) hx hb c e f hh
  rw [h2, ← h6]
  exact hz _ _ _ h5
 | slc0 hx hb hk hp =>
  intro hg
  obtain ⟨x', h1, h2, _, h4⟩ := h.dom _ _ (hg _ (by simp [rowsOf])) hx
  exact .slc0 h1 (h4.trans hb) (h2 ▸ hk) hp
 | mp hx hb hk =>
  intro hg
  obtain ⟨x', h1, h2, _, h4⟩ := h.dom _ _ (hg _ (by simp [rowsOf])) hx
  exact .mp h1 (h4.trans hb) (h2 ▸ hk)
 | func hs _ ih => intro hg; simp only [rowsOf] at hg; exact .func hs fun i hi => ih i hi fun r hr => hg r (wdB hi hr)
 | agg hs _ hf ih => intro hg; simp only [rowsOf] at hg; exact .agg hs (fun i hi => ih i hi fun r hr => hg r (wdB hi hr)) hf
 | tuple hs _ ih => intro hg; simp only [rowsOf] at hg; exact .tuple hs fun i hi => ih i hi fun r hr => hg r (wdB hi hr)
theorem wo0 {l : List PV} {p : PV} (hp : p ∈ l) {r : Nat} (h : r ∈ rowsOf p) : r ∈ rowsOfL l := by
 obtain ⟨i, hi, rfl⟩ := List.getElem_of_mem hp
 exact wdB hi h
structure HandU (σ : St) (H : wac) (g : Nat → Nat) (gs : List Nat) : Prop where
 h0 : Hand0 σ H g
 giv : ∀ r x, waa H r = some x → 1000 ≤ r → g r ∈ gs
 pin : ∀ r x, waa H r = some x → r < 1000 → g r ∉ gs
 all : ∀ s ∈ gs, ∃ r x, waa H r = some x ∧ g r = s
 big : ∀ s ∈ gs, 1000 ≤ s
 env : ∀ s ∈ gs, ∀ t, s ∉ rowsOf (wam σ.env t)
 dfr : ∀ s ∈ gs, s ∉ rowsOfL σ.dfr
 out : ∀ s ∈ gs, ∀ t y, waa σ.heap t = some y → (∀ r x, waa H r = some x → g r ≠ t) → s ∉ rowsOfL y.els
structure BackU (σ : St) (H H' : wac) (g ρ : Nat → Nat) (gs : List Nat) : Prop where
 old : ∀ r x', waa H' r = some x' → r < 1000 → ∃ x, waa H r = some x ∧ ρ r = g r ∧ x'.k = x.k ∧ (1 ≤ x.k → x'.els.length = x.els.length)
 all : ∀ r x, waa H r = some x → r < 1000 → ∃ x', waa H' r = some x'
 new : ∀ r x', waa H' r = some x' → 1000 ≤ r → (waa σ.heap (ρ r) = none ∨ ρ r ∈ gs) ∧ 1000 ≤ ρ r
 inj : ∀ r s x y, waa H' r = some x → waa H' s = some y → ρ r = ρ s → r = s
 refs : ∀ r x, waa H' r = some x → refsInL H' x.els ∧ cleanL x.els
structure MergedU (σ : St) (H' : wac) (ρ : Nat → Nat) (gs : List Nat) (H2 : wac) : Prop where
 inn : ∀ r x, waa H' r = some x → waa H2 (ρ r) = some (x.ren ρ)
 out : ∀ s, (∀ r x, waa H' r = some x → ρ r ≠ s) → waa H2 s = if s ∈ gs then none else waa σ.heap s
section
variable {P : Program} {G : List (Nat × PD)} {B : Base P} {N : Nat} {σ : St} {a : Act} {w w' : World} {φ φ' : Nm} {H H' H2 : wac} {g ρ : Nat → Nat} {gs : List Nat}
theorem BackU.merged (hb : BackU σ H H' g ρ gs) : MergedU σ H' ρ gs (wbQ ρ H' (wbA gs σ.heap)) := by
 obtain ⟨h1, h2⟩ := whl (ρ := ρ) (l := H') (H0 := wbA gs σ.heap) (fun r s hr hs he => by
  obtain ⟨x, hx⟩ := Option.isSome_iff_exists.1 hr
  obtain ⟨y, hy⟩ := Option.isSome_iff_exists.1 hs
  exact hb.inj r s x y hx hy he)
 exact ⟨h1, fun s hn => (h2 s hn).trans (wgx _ _ _)⟩
open Classical in
theorem wb9 {φ' : Nm} (hi : ∀ r s x y, waa H' r = some x → waa H' s = some y → ρ r = ρ s → r = s) {r : Nat} {x : Row} (h : waa H' r = some x) : (wa2 φ φ' H' ρ none) (ρ r) = φ' r := by
 have hex : ∃ r', (waa H' r').isSome = true ∧ ρ r' = ρ r := ⟨r, by rw [h]; rfl, rfl⟩
 show (if h : ∃ r', (waa H' r').isSome = true ∧ ρ r' = ρ r then φ' (Classical.choose h) else φ (ρ r)) = _
 rw [dif_pos hex]
 obtain ⟨h1, h2⟩ := Classical.choose_spec hex
 obtain ⟨y, hy⟩ := Option.isSome_iff_exists.1 h1
 rw [hi _ _ _ _ hy h h2]
structure CameU (hr : Rep G B N σ a w φ) (H H' H2 : wac) (g ρ : Nat → Nat) (gs : List Nat) (g' : Gh) (w' : World) (φ' : Nm) : Prop where
 hh : HandU σ H g gs
 hb : BackU σ H H' g ρ gs
 hm : MergedU σ H' ρ gs H2
 hs : Sit G (hr.bc H g none) w' φ' H' g'
variable {g' : Gh} {hr : Rep G B N σ a w φ} (c : CameU hr H H' H2 g ρ gs g' w' φ')
include c
theorem CameU.old {b : Nat} (hlt : b < w.heap.size) (h : ¬ own (wbJ φ H g none) H b) : w'.heap[b]? = w.heap[b]? := c.hs.keeps.block b hlt h
theorem CameU.out_own {s b : Nat} {y : Row} (hn : ∀ r x, waa H' r = some x → ρ r ≠ s) (hg : s ∉ gs) (hy : waa σ.heap s = some y) (hφ : φ s = some b) : ¬ own (wbJ φ H g none) H b := by
 rintro (⟨r, x, hx, hrb⟩ | hT)
 ·rw [wc8 hx] at hrb
  have e := hr.heap.inj _ _ _ _ b (c.hh.h0.row r x hx) hy hrb hφ
  rcases Nat.lt_or_ge r 1000 with h | h
  ·obtain ⟨x', hx'⟩ := c.hb.all r x hx h
   obtain ⟨_, _, h2, _⟩ := c.hb.old r x' hx' h
   exact hn r x' hx' (h2.trans e)
  ·exact hg (e ▸ c.hh.giv r x hx h)
 ·simp [wbJ] at hT
theorem CameU.handed {r : Nat} {x' : Row} (hx' : waa H' r = some x') (hp : r < 1000) : ∃ x, waa H r = some x ∧ ρ r = g r ∧ x'.k = x.k ∧ (1 ≤ x.k → x'.els.length = x.els.length) ∧ φ' r = φ (g r) := by
 obtain ⟨x, h1, h2, h3, h4⟩ := c.hb.old r x' hx' hp
 refine ⟨x, h1, h2, h3, h4, ?_⟩
 have := c.hs.pins r x' hx' (by simp [pinned, hp])
 exact this.trans (wc8 (φ := φ) (g := g) (gc := none) h1)
theorem CameU.row_of {b : Nat} (h : waC (wa2 φ φ' H' ρ none) H2 b) : waC φ' H' b ∨ ∃ s y, (∀ r x, waa H' r = some x → ρ r ≠ s) ∧ s ∉ gs ∧ waa σ.heap s = some y ∧ φ s = some b := by
 obtain ⟨s, y, h1, h2⟩ := h
 by_cases hex : ∃ r x, waa H' r = some x ∧ ρ r = s
 ·obtain ⟨r, x, hx, rfl⟩ := hex
  rw [wb9 c.hb.inj hx] at h2
  exact .inl ⟨r, x, hx, h2⟩
 ·have hn : ∀ r x, waa H' r = some x → ρ r ≠ s := fun r x hx e => hex ⟨r, x, hx, e⟩
  rw [wa7 hn] at h2
  rw [c.hm.out s hn] at h1
  split at h1
  ·cases h1
  ·rename_i hg
   exact .inr ⟨s, y, hn, hg, h1, h2⟩
theorem CameU.own_old {b : Nat} (hlt : b < w.heap.size) (h : own (wa2 φ φ' H' ρ none) H2 b) : own φ σ.heap b := by
 rcases h with h | h
 ·rcases c.row_of h with ⟨r, x, hx, hφ⟩ | ⟨s, y, _, _, hy, hφ⟩
  ·rcases c.hs.new r x b hx hφ with h | h
   ·exact wc9 c.hh.h0 h
   ·exact absurd hlt (Nat.not_lt.2 h)
  ·exact .inl ⟨s, y, hy, hφ⟩
 ·exact .inr (by simpa [wa2] using h)
theorem CameU.own_new {b : Nat} (hX : ¬ (hr.bc H g none).X b) (ho : ¬ own φ' H' b) : ¬ own (wa2 φ φ' H' ρ none) H2 b := by
 rintro (h | h)
 ·rcases c.row_of h with h | ⟨s, y, hn, hg, hy, hφ⟩
  ·exact ho (.inl h)
  ·exact hX (.inr ⟨.inl ⟨s, y, hy, hφ⟩, c.out_own hn hg hy hφ⟩)
 ·have h : φ.T b := by simpa [wa2] using h
  refine hX (.inr ⟨.inr h, ?_⟩)
  rintro (h2 | h2)
  ·exact (hr.heap.far b h).2.2 (wd6 c.hh.h0 h2)
  ·simp [wbJ] at h2
theorem CameU.lt1000 {s r0 : Nat} {x0' y : Row} (hg : s ∉ gs) (hx0 : waa H' r0 = some x0') (he : ρ r0 = s) (hy : waa σ.heap s = some y) : r0 < 1000 := by
 rcases Nat.lt_or_ge r0 1000 with h | h
 ·exact h
 ·rcases (c.hb.new r0 x0' hx0 h).1 with h1 | h1
  ·rw [he, hy] at h1; cases h1
  ·exact absurd (he ▸ h1) hg
theorem CameU.ext : ExtU gs w B.X φ σ.heap w' (wa2 φ φ' H' ρ none) H2 := by
 have hsz := c.hs.keeps.size
 refine ⟨fun r x hg hx => ?_, fun b h => ⟨Nat.lt_of_lt_of_le h.1 hsz, h.2.1, fun ho => h.2.2 (c.own_old h.1 ho)⟩, fun b h => ⟨Nat.lt_of_lt_of_le h.1 hsz, fun ho => h.2 (c.own_old h.1 ho)⟩,
  fun b h => c.old h.1 (fun ho => h.2 (wc9 c.hh.h0 ho)), fun r x b hg hx hφ cs e f hcs => ?_⟩
 ·by_cases hex : ∃ r0 x0, waa H' r0 = some x0 ∧ ρ r0 = r
  ·obtain ⟨r0, x0', hx0, rfl⟩ := hex
   have hp := c.lt1000 hg hx0 rfl hx
   obtain ⟨x0, h1, h2, h3, h4, h5⟩ := c.handed hx0 hp
   have h6 := c.hh.h0.row r0 x0 h1
   rw [← h2, hx] at h6
   simp only [Option.some.injEq] at h6; subst h6
   refine ⟨x0'.ren ρ, c.hm.inn r0 x0' hx0, h3, fun hk => by simp only [Row.ren, wao]; exact h4 hk, ?_⟩
   rw [wb9 c.hb.inj hx0, h5, h2]
  ·have hn : ∀ r0 x0, waa H' r0 = some x0 → ρ r0 ≠ r := fun r0 x0 h e => hex ⟨r0, x0, h, e⟩
   exact ⟨x, (c.hm.out r hn).trans (by rw [if_neg hg]; exact hx), rfl, fun _ => rfl, wa7 hn⟩
 ·have hw' : csz w' b = cs.size := by unfold csz; rw [hcs]
  have hcsz : csz w b = csz w' b → ∃ c0 e0 f0, w.heap[b]? = some (.cells c0 e0 f0) ∧ c0.size = cs.size := fun hcz => by
   obtain ⟨o, h1, h2⟩ := (hr.heap.rows r x b hx hφ).some
   cases o with
   | cells c0 e0 f0 => exact ⟨c0, e0, f0, h1, by rw [← hw', ← hcz]; unfold csz; rw [h1]⟩
   | map es cl =>
    exfalso
    have hk0 : x.k = 0 := Nat.eq_zero_of_not_pos fun hk => by
     obtain ⟨_, _, _, h3, _⟩ := (hr.heap.rows r x b hx hφ).here hk
     rw [h1] at h3; cases h3
    by_cases hex : ∃ r0 x0, waa H' r0 = some x0 ∧ ρ r0 = r
    ·obtain ⟨r0, x0', hx0, rfl⟩ := hex
     have hp := c.lt1000 hg hx0 rfl hx
     obtain ⟨x0, h4, h5, h6, _, h7⟩ := c.handed hx0 hp
     have h8 := c.hh.h0.row r0 x0 h4
     rw [← h5, hx] at h8
     simp only [Option.some.injEq] at h8
     have h9 : x0'.k = 0 := by rw [h6, ← hk0, h8]; rfl
     obtain ⟨_, _, h10, _⟩ := (c.hs.heap.rows r0 x0' b hx0 (by rw [h7, ← h5]; exact hφ)).map h9
     rw [hcs] at h10; cases h10
    ·have hn : ∀ r0 x0, waa H' r0 = some x0 → ρ r0 ≠ r := fun r0 x0 h e => hex ⟨r0, x0, h, e⟩
     have := c.old (hr.heap.lt hx hφ) (c.out_own hn hg hx hφ)
     rw [hcs, h1] at this; cases this
   | _ => cases h2
  refine hcsz ?_
  by_cases hex : ∃ r0 x0, waa H' r0 = some x0 ∧ ρ r0 = r
  ·obtain ⟨r0, x0', hx0, rfl⟩ := hex
   have hp := c.lt1000 hg hx0 rfl hx
   obtain ⟨x0, h1, h2, h3, h4, h5⟩ := c.handed hx0 hp
   exact (c.hs.psz r0 x0' b hx0 (by simp [pinned, hp]) (by rw [h5, ← h2]; exact hφ)).symm
  ·have hn : ∀ r0 x0, waa H' r0 = some x0 → ρ r0 ≠ r := fun r0 x0 h e => hex ⟨r0, x0, h, e⟩
   exact (wem (c.old (hr.heap.lt hx hφ) (c.out_own hn hg hx hφ))).symm
theorem CameU.okd {b : Nat} (h : okd w' (hr.bc H g none).X φ' H' b) : okd w' B.X (wa2 φ φ' H' ρ none) H2 b := ⟨h.1, fun hX => h.2.1 (.inl hX), c.own_new h.2.1 h.2.2⟩
theorem CameU.val {v : Value} {p : PV} (hv : RepV w' (hr.bc H g none).X φ' H' v p) : clean p → refsIn H' p → RepV w' B.X (wa2 φ φ' H' ρ none) H2 v (p.ren ρ) := by
 have hd : ∀ {v : Value} {x : PD}, RepD w' (Pv.okd w' (hr.bc H g none).X φ' H') v x → RepD w' (Pv.okd w' B.X (wa2 φ φ' H' ρ none) H2) v x := fun h => h.mono (fun b hb => c.okd hb) (fun _ _ => rfl)
 induction hv with
 | any v => intro _ _; simp only [PV.ren]; exact .any v
 | d h => intro _ _; simp only [PV.ren]; exact .d (hd h)
 | b h => intro h0 _; simp [clean] at h0
 | @ptr r i off b x hx hφ hk => intro _ _; simp only [PV.ren]; exact RepV.ptr (x := x.ren ρ) (c.hm.inn _ _ hx) ((wb9 c.hb.inj hx).trans hφ) hk
 | @mp r b x hx hφ hk => intro _ _; simp only [PV.ren]; exact RepV.mp (x := x.ren ρ) (c.hm.inn _ _ hx) ((wb9 c.hb.inj hx).trans hφ) hk
 | dptr h hi => intro _ _; simp only [PV.ren]; exact .dptr (hd h) hi
 | bptr h hi => intro h0 _; simp [clean] at h0
 | glob n => intro _ _; simp only [PV.ren]; exact .glob n
 | val hf => intro _ _; simp only [PV.ren]; exact .val hf
 | @slc r lo n cap b x hx hφ hk hn hc hl hz => intro _ _; simp only [PV.ren]; exact RepV.slc (x := x.ren ρ) (c.hm.inn _ _ hx) ((wb9 c.hb.inj hx).trans hφ) hk (by simpa [Row.ren, wao] using hn) hc (by simpa [Row.ren, wao] using hl) hz
 | @slc0 r x p hx hφ hk hp => intro _ _; simp only [PV.ren]; exact RepV.slc0 (x := x.ren ρ) (c.hm.inn _ _ hx) ((wb9 c.hb.inj hx).trans hφ) hk hp
 | func hs _ ih =>
  intro h0 h1
  simp only [clean] at h0; simp only [refsIn] at h1
  simp only [PV.ren]
  refine .func (by rw [wao]; exact hs) (fun i hi => ?_)
  rw [wao] at hi
  rw [wcj _ _ i hi]
  exact ih i hi (wcq h0 i hi) (wbc h1 i hi)
 | agg hs _ hf ih =>
  intro h0 h1
  simp only [clean] at h0; simp only [refsIn] at h1
  simp only [PV.ren]
  refine .agg (by rw [wao]; exact hs) (fun i hi => ?_) (fun i hi => hf i (by rw [wao] at hi; exact hi))
  rw [wao] at hi
  rw [wcj _ _ i hi]
  exact ih i hi (wcq h0 i hi) (wbc h1 i hi)
 | tuple hs _ ih =>
  intro h0 h1
  simp only [clean] at h0; simp only [refsIn] at h1
  simp only [PV.ren]
  refine .tuple (by rw [wao]; exact hs) (fun i hi => ?_)
  rw [wao] at hi
  rw [wcj _ _ i hi]
  exact ih i hi (wcq h0 i hi) (wbc h1 i hi)
omit c in
theorem Dfr.extU {m : Nat → Prop} {gs : List Nat} {w w' : World} {X : Nat → Prop} {φ φ' : Nm} {H H' : wac} {ds : List Deferred} {ps : List PV} (h : Dfr m w X φ H ds ps) (he : ExtU gs w X φ H w' φ' H') (hg : ∀ r ∈ rowsOfL ps, r ∉ gs) : Dfr m w' X φ' H' ds ps := by
 have := h.map (f := id) (fun D h => ⟨he.okd D h, he.blk D (wco h)⟩) (fun p hp v hv => hv.extU he fun r hr => hg r (wo0 hp hr))
 simpa using this
omit c in
theorem GlobOk.extU {gs : List Nat} {G : List (Nat × PD)} {X : Nat → Prop} {w w' : World} {φ φ' : Nm} {H H' : wac} (h : ExtU gs w X φ H w' φ' H') (hg : GlobOk G w X φ H) (hlt : ∀ g x, (g, x) ∈ G → ¬ own φ' H' g) : GlobOk G w' X φ' H' := by
 intro g x hm
 obtain ⟨c, e, f, v, h1, h2, h3, h4, h5⟩ := hg g x hm
 have hlt' : g < w.heap.size := (Array.getElem?_eq_some_iff.1 h1).1
 refine ⟨c, e, f, v, (h.blk g ⟨hlt', h2⟩).trans h1, hlt g x hm, h3.mono h.okd (fun b hb => h.blk b (wco hb)), h4, h5⟩
theorem CameU.rep : Rep G B N { σ with heap := H2 } a w' (wa2 φ φ' H' ρ none) := by
 have he := c.ext
 have hsz := c.hs.keeps.size
 have hnewB : ∀ b, own φ σ.heap b → B.o0 b ∨ B.w0.heap.size ≤ b := fun b h => h.elim (fun ⟨r, x, h1, h2⟩ => hr.new r x b h1 h2) (fun h => hr.tnew b h)
 have hlt : ∀ {s y b}, waa σ.heap s = some y → φ s = some b → b < w.heap.size := fun h1 h2 => hr.heap.lt h1 h2
 have hout : ∀ {s y}, waa H2 s = some y → (∀ r x, waa H' r = some x → ρ r ≠ s) → s ∉ gs ∧ waa σ.heap s = some y := fun {s y} h hn => by
  rw [c.hm.out s hn] at h
  split at h
  ·cases h
  ·rename_i hg; exact ⟨hg, h⟩
 have hT0 : (wa2 φ φ' H' ρ none).T = φ.T := by funext b; simp [wa2]
 refine ⟨hr.size, fun t => (hr.env t).extU he (fun r hr' hg => c.hh.env r hg t hr'), ⟨fun s y b hs hb => ?_, fun s y hs hb => ?_, fun s t y z b hs ht hb hb' => ?_, fun b hT => ?_⟩, ⟨c.hs.keeps.os.trans hr.keeps.os, c.hs.keeps.tape.trans hr.keeps.tape, c.hs.keeps.output.trans hr.keeps.output, Nat.le_trans hr.keeps.size hsz, fun b hb ho => ?_⟩,
  fun s y b hs hb => ?_, fun s y hs hp => ?_, fun s y b hs hp hb => ?_, hr.glob.extU he (fun n x hm => ?_), fun b hT => ?_, ?_, hr.dfr.extU he (fun r hr' hg => c.hh.dfr r hg hr')⟩
 -- rows
 ·by_cases hex : ∃ r x, waa H' r = some x ∧ ρ r = s
  ·obtain ⟨r, x, hx, rfl⟩ := hex
   rw [wb9 c.hb.inj hx] at hb
   have hs' := c.hm.inn r x hx
   rw [hs] at hs'; simp only [Option.some.injEq] at hs'; subst hs'
   refine (c.hs.heap.rows r x b hx hb).turn rfl rfl (by simp [Row.ren, wao]) (fun _ _ h => h) (fun hX => (c.hs.heap.rows r x b hx hb).free (.inl hX)) (fun i hi' _ v h4 => ?_) fun z hz => by simp only [Row.ren, wev]; exact hz.map fun p hp => wlW ρ hp
   have := c.val h4 (wcq (c.hb.refs r x hx).2 i hi') (wbc (c.hb.refs r x hx).1 i hi')
   simp only [Row.ren]
   rw [wcj _ _ i hi']
   exact this
  ·have hn : ∀ r x, waa H' r = some x → ρ r ≠ s := fun r x h e => hex ⟨r, x, h, e⟩
   obtain ⟨hg, hs⟩ := hout hs hn
   rw [wa7 hn] at hb
   have hnH : ∀ r x, waa H r = some x → g r ≠ s := fun r x hx e => by
    rcases Nat.lt_or_ge r 1000 with h | h
    ·obtain ⟨x', hx'⟩ := c.hb.all r x hx h
     obtain ⟨_, _, h2, _⟩ := c.hb.old r x' hx' h
     exact hn r x' hx' (h2.trans e)
    ·exact hg (e ▸ c.hh.giv r x hx h)
   exact (hr.heap.rows s y b hs hb).turn rfl rfl rfl (fun _ _ h => (c.old (hlt hs hb) (c.out_own hn hg hs hb)).trans h) (hr.heap.rows s y b hs hb).free (fun i hi _ v hv => hv.extU he fun r hr' hgr => c.hh.out r hgr s y hs hnH (wdB hi hr')) fun _ h => h
 ·by_cases hex : ∃ r x, waa H' r = some x ∧ ρ r = s
  ·obtain ⟨r, x, hx, rfl⟩ := hex
   rw [wb9 c.hb.inj hx] at hb
   have hs' := c.hm.inn r x hx
   rw [hs] at hs'; simp only [Option.some.injEq] at hs'; subst hs'
   simp only [Row.ren, c.hs.heap.void r x hx hb, renL]
  ·have hn : ∀ r x, waa H' r = some x → ρ r ≠ s := fun r x h e => hex ⟨r, x, h, e⟩
   rw [wa7 hn] at hb
   exact hr.heap.void s y (hout hs hn).2 hb
 -- no two rows in one block
 ·have key : ∀ {s t : Nat} {y z : Row}, (∃ r x, waa H' r = some x ∧ ρ r = s) → (∀ r x, waa H' r = some x → ρ r ≠ t) → waa H2 t = some z → (wa2 φ φ' H' ρ none) s = some b → (wa2 φ φ' H' ρ none) t = some b → False := by
   rintro s t y z ⟨r, x, hx, rfl⟩ hn ht h1 h2
   rw [wb9 c.hb.inj hx] at h1
   rw [wa7 hn] at h2
   obtain ⟨hg, ht⟩ := hout ht hn
   rcases c.hs.new r x b hx h1 with h | h
   ·exact c.out_own hn hg ht h2 h
   ·exact absurd (hlt ht h2) (Nat.not_lt.2 h)
  by_cases h1 : ∃ r x, waa H' r = some x ∧ ρ r = s <;> by_cases h2 : ∃ r x, waa H' r = some x ∧ ρ r = t
  ·obtain ⟨r, x, hx, rfl⟩ := h1
   obtain ⟨r', x', hx', rfl⟩ := h2
   rw [wb9 c.hb.inj hx] at hb
   rw [wb9 c.hb.inj hx'] at hb'
   rw [c.hs.heap.inj r r' x x' b hx hx' hb hb']
  ·exact (key (y := y) h1 (fun r x h e => h2 ⟨r, x, h, e⟩) ht hb hb').elim
  ·exact (key (y := z) h2 (fun r x h e => h1 ⟨r, x, h, e⟩) hs hb' hb).elim
  ·have hn1 : ∀ r x, waa H' r = some x → ρ r ≠ s := fun r x h e => h1 ⟨r, x, h, e⟩
   have hn2 : ∀ r x, waa H' r = some x → ρ r ≠ t := fun r x h e => h2 ⟨r, x, h, e⟩
   rw [wa7 hn1] at hb
   rw [wa7 hn2] at hb'
   exact hr.heap.inj s t y z b (hout hs hn1).2 (hout ht hn2).2 hb hb'
 -- what is somebody else's
 ·rw [hT0] at hT
  obtain ⟨h1, h2, h3⟩ := hr.heap.far b hT
  refine ⟨Nat.lt_of_lt_of_le h1 hsz, h2, fun h => ?_⟩
  rcases c.row_of h with ⟨r, x, hx, hφ⟩ | ⟨s, y, hn, _, hy, hφ⟩
  ·rcases c.hs.new r x b hx hφ with h | h
   ·rcases h with h | h
    ·exact h3 (wd6 c.hh.h0 h)
    ·simp [wbJ] at h
   ·exact absurd h1 (Nat.not_lt.2 h)
  ·exact h3 ⟨s, y, hy, hφ⟩
 ·refine (c.old (Nat.lt_of_lt_of_le hb hr.keeps.size) (fun h => ?_)).trans (hr.keeps.block b hb ho)
  rcases hnewB b (wc9 c.hh.h0 h) with h | h
  ·exact ho h
  ·omega
 -- new
 ·by_cases hex : ∃ r x, waa H' r = some x ∧ ρ r = s
  ·obtain ⟨r, x, hx, rfl⟩ := hex
   rw [wb9 c.hb.inj hx] at hb
   rcases c.hs.new r x b hx hb with h | h
   ·exact hnewB b (wc9 c.hh.h0 h)
   ·exact .inr (Nat.le_trans hr.keeps.size h)
  ·have hn : ∀ r x, waa H' r = some x → ρ r ≠ s := fun r x h e => hex ⟨r, x, h, e⟩
   rw [wa7 hn] at hb
   exact hr.new s y b (hout hs hn).2 hb
 ·by_cases hex : ∃ r x, waa H' r = some x ∧ ρ r = s
  ·obtain ⟨r, x, hx, rfl⟩ := hex
   rw [wb9 c.hb.inj hx]
   rcases Nat.lt_or_ge r 1000 with h | h
   ·obtain ⟨x0, h1, h2, _, _, h5⟩ := c.handed hx h
    rw [h5, h2]
    exact hr.pins _ _ (c.hh.h0.row r x0 h1) (h2 ▸ hp)
   ·have := (c.hb.new r x hx h).2
    simp only [pinned, decide_eq_true_eq] at hp; omega
  ·have hn : ∀ r x, waa H' r = some x → ρ r ≠ s := fun r x h e => hex ⟨r, x, h, e⟩
   rw [wa7 hn]
   exact hr.pins s y (hout hs hn).2 hp
 ·by_cases hex : ∃ r x, waa H' r = some x ∧ ρ r = s
  ·obtain ⟨r, x, hx, rfl⟩ := hex
   rw [wb9 c.hb.inj hx] at hb
   rcases Nat.lt_or_ge r 1000 with h | h
   ·obtain ⟨x0, h1, h2, _, _, h5⟩ := c.handed hx h
    exact (c.hs.psz r x b hx (by simp [pinned, h]) hb).trans (hr.psz _ _ b (c.hh.h0.row r x0 h1) (h2 ▸ hp) (by rw [← h5]; exact hb))
   ·have := (c.hb.new r x hx h).2
    simp only [pinned, decide_eq_true_eq] at hp; omega
  ·have hn : ∀ r x, waa H' r = some x → ρ r ≠ s := fun r x h e => hex ⟨r, x, h, e⟩
   obtain ⟨hg, hs⟩ := hout hs hn
   rw [wa7 hn] at hb
   exact (wem (c.old (hlt hs hb) (c.out_own hn hg hs hb))).trans (hr.psz s y b hs hp hb)
 ·obtain ⟨cs, e, f, v, h1, h2, _⟩ := hr.glob n x hm
  exact fun ho => h2 (c.own_old (Array.getElem?_eq_some_iff.1 h1).1 ho)
 ·exact hr.tnew b (hT0 ▸ hT)
 -- the loop's body
 ·refine wdW (w := w) (φ := φ) (H := σ.heap) hr.inv hT0 c.hs.keeps.os c.hs.keeps.tape c.hs.keeps.output hsz (fun b hlt hn => c.old hlt fun ho => ?_) (fun b h => ?_)
  ·rcases ho with h | h
   ·exact hn (wd6 c.hh.h0 h)
   ·simp [wbJ] at h
  ·rcases c.row_of h with ⟨r, x, hx, hφ⟩ | ⟨s, y, hn, _, hy, hφ⟩
   ·rcases c.hs.new r x b hx hφ with h | h
    ·rcases h with h | h
     ·exact .inl (wd6 c.hh.h0 h)
     ·simp [wbJ] at h
    ·exact .inr h
   ·exact .inl ⟨s, y, hy, hφ⟩
end
section
variable {P : Program} {G : List (Nat × PD)} {ro : Option Nat} {B : Base P} {N : Nat} {σ τ : St} {a : Act} {w w' : World} {φ φ' : Nm} {H H' H2 : wac} {g ρ : Nat → Nat} {gs : List Nat} {o : Oper} {K : St → Prop}
theorem OpT.callU {c : Call} {f : FuncId} {xo : Operand} {caps args : List PV} {Post : PV → wac → Prop} (ho : o.op = .call c) (hc : c.callee = .value xo) (hx : wcr (σ.eval xo) = some (f, caps)) (hcal : wa1 P f = true)
  (hf : Fn P G f args H Post) (hh : HandU σ H g gs) (ha : wds σ.heap H g (war σ c.args.toList ++ caps) args) (hd : wan N o.dst)
  (hK : ∀ p H', Post p H' → ∃ ρ, BackU σ H H' g ρ gs ∧ clean p ∧ refsIn H' p ∧ K (({ σ with heap := wbQ ρ H' (wbA gs σ.heap) } : St).put o.dst (p.ren ρ))) : OpT P G ro N o σ K := by
 intro B hro a w φ hr next Q hn
 obtain ⟨vs, hv1, hv2, hv3⟩ := wmk hx (hr.eval xo)
 obtain ⟨h1, h2⟩ := wiE ha
 obtain ⟨h3, h4⟩ := wnH hr (ops := c.args.toList) hv2 hv3
 have hcall := hf (hr.bc H g none) (wbJ φ H g none) (c.args.toList.map a.eval ++ vs.toList) rfl (h3.trans h1) (fun i hi => wnG hr hh.h0 (h4 i (h1 ▸ hi)) (h2 i (h1 ▸ hi) hi)) (hr.hand hh.h0 (.inl rfl))
 have hrun : (o.semAt ro a.eval).run P w = .ok (.enter f (c.args.toList.map a.eval ++ vs.toList).toArray) w := by
  rw [Oper.semAt_eq _ _ _ (fun c hc => by rw [ho] at hc; cases hc)]
  have e1 : (c.args.toList.map a.eval ++ vs.toList).toArray = c.args.map a.eval ++ vs := by
   apply Array.toList_inj.1; simp
  have e2 : (#[] ++ c.args.map a.eval ++ vs : Array Value) = c.args.map a.eval ++ vs := by simp
  simp only [execOp, ho, resolve, hc, hv1, Deferred.ofValue, Sem.run_bind, Sem.run_pure, Result.andThen_ok, invoke, e1, e2]
  exact wfy hcal _ w
 refine ⟨fun _ _ => trivial, ?_⟩
 show o.uponIn (Fw ro) 0 P a next Q ((o.semAt ro a.eval).run P w)
 rw [hrun]
 refine ⟨fun h => (by cases h), ?_⟩
 refine CallsIn.mono (R := fun e w' => ∃ v p H' g' φ', e = .returned v ∧ Post p H' ∧ RepV w' (hr.bc H g none).X φ' H' v p ∧ Sit G (hr.bc H g none) w' φ' H' g') hcall ?_
 rintro e w' ⟨v, p, H', g', φ', rfl, hP, h5, h6⟩
 obtain ⟨ρ, hb, hcl, href, hKp⟩ := hK p H' hP
 have cm : CameU hr H H' (wbQ ρ H' (wbA gs σ.heap)) g ρ gs g' w' φ' := ⟨hh, hb, hb.merged, h6⟩
 exact hn _ _ _ _ hKp (cm.rep.put hd (cm.val h5 hcl href))
end
end Go.Pv

namespace Go.Pv
def ObjFn (P : Program) (G : List (Nat × PD)) (f : FuncId) (args : List PV) (H : wac) (res : PV) (H' : wac) : Prop := Fn P G f args H fun p K => p = res ∧ K = H'
@[go_sem] theorem mels_nil {α β : Type} (k : α → PD) (v : β → PD) : wap k v [] = [] := rfl
@[go_sem] theorem mels_ren {α β : Type} (ρ : Nat → Nat) (k : α → PD) (v : β → PD) (L : List (α × β)) : renL ρ (wap k v L) = wap k v L := by
 induction L with
 | nil => simp [wap, renL]
 | cons e l ih => simp only [wap, List.map_cons, renL] at ih ⊢; rw [ih]; simp [wjK, PV.ren, renL]
@[go_sem] theorem mels_clean {α β : Type} (k : α → PD) (v : β → PD) (L : List (α × β)) : cleanL (wap k v L) = True := by
 induction L with
 | nil => simp [wap, cleanL]
 | cons e l ih => simp only [wap, List.map_cons, cleanL] at ih ⊢; rw [ih]; simp [wjK, clean, cleanL]
@[go_sem] theorem mels_rows {α β : Type} (k : α → PD) (v : β → PD) (L : List (α × β)) : rowsOfL (wap k v L) = [] := by
 induction L with
 | nil => simp [wap, rowsOfL]
 | cons e l ih => simp only [wap, List.map_cons, rowsOfL] at ih ⊢; rw [ih]; simp [wjK, rowsOf, rowsOfL]
@[go_sem] theorem mels_kill {α β : Type} (r : Nat) (k : α → PD) (v : β → PD) (L : List (α × β)) : killL r (wap k v L) = wap k v L := by
 induction L with
 | nil => simp [wap, killL]
 | cons e l ih => simp only [wap, List.map_cons, killL] at ih ⊢; rw [ih]; simp [wjK, PV.kill, killL]
@[go_sem] theorem mels_refs {α β : Type} (H : wac) (k : α → PD) (v : β → PD) (L : List (α × β)) : refsInL H (wap k v L) = True := by
 induction L with
 | nil => simp [wap, refsInL]
 | cons e l ih => simp only [wap, List.map_cons, refsInL] at ih ⊢; rw [ih]; simp [wjK, refsIn, refsInL]
@[go_sem] theorem mels_length {α β : Type} (k : α → PD) (v : β → PD) (L : List (α × β)) : (wap k v L).length = L.length := by simp [wap]
def wdl (b : Bool) (r : Nat) : PV := match b with
 | true => .ptr r 0 0
 | false => .d .nilptr
def wlg (b : Bool) (r : Nat) : List Nat := match b with
 | true => [r]
 | false => []
@[go_sem] theorem optP_ren (g : Nat → Nat) (b : Bool) (r : Nat) : (wdl b r).ren g = wdl b (g r) := by cases b <;> simp [wdl, PV.ren]
@[go_sem] theorem optP_kill (q : Nat) (b : Bool) (r : Nat) : (wdl b r).kill q = if r = q then (match b with | true => .any | false => .d .nilptr) else wdl b r := by
 cases b <;> simp [wdl, PV.kill]
@[go_sem] theorem optP_clean (b : Bool) (r : Nat) : clean (wdl b r) = True := by cases b <;> simp [wdl, clean]
@[go_sem] theorem optP_refs {H : wac} {b : Bool} {r : Nat} (h : (waa H r).isSome = true) : refsIn H (wdl b r) = True := by cases b <;> simp [wdl, refsIn, h]
@[go_sem] theorem optP_rows (b : Bool) (r : Nat) : rowsOf (wdl b r) = wlg b r := by cases b <;> simp [wdl, rowsOf, wlg]
@[go_sem] theorem optP_cells (b : Bool) (r : Nat) : waz (wdl b r) = some [wdl b r] := by cases b <;> rfl
@[go_sem] theorem optP_sb (b : Bool) (r : Nat) : wa0 (wdl b r) = false := by cases b <;> rfl
theorem wlC {b : Bool} {r q : Nat} {l : List PV} (h : (r == q) = false) (h2 : (rowsOfL l).contains q = false) : (rowsOfL [PV.agg (wdl b r :: l)]).contains q = false := by
 have e : rowsOfL [PV.agg (wdl b r :: l)] = wlg b r ++ rowsOfL l := by simp [rowsOfL, rowsOf, optP_rows]
 rw [e]
 have hne : r ≠ q := by simpa using h
 have h2' : q ∉ rowsOfL l := by simpa using h2
 cases b <;> simp [wlg, h2', Ne.symm hne]
section
variable {P : Program} {G : List (Nat × PD)} {ro : Option Nat} {N : Nat} {ops : Array Oper} {σ τ σ' : St} {o : Oper} {rest : List Oper}
theorem ObjFn.pf {f : FuncId} {fn : Func} {c : Code} {args : List PV} {H H' : wac} {res : PV} {n : Nat} {e0 : List (Nat × PV)} (hf : P.funcs[f]? = some fn) (hn : fn.ntmps = n)
  (h : AWp P G none n c ⟨e0, H, [], none⟩ (Fin P G fn fun p K => p = res ∧ wc6 H' K)) (hb : fn.body = some c := by rfl) (hN : args.length ≤ n := by simp)
  (he : wb8 0 args = e0 := by (simp only [wb8, Nat.reduceAdd, Nat.zero_add]; rfl)) (hrf : refsIn H' res := by first | exact trivial | exact rfl | (simp only [go_sem, ↓reduceIte]; done))
  (hrh : wch H' H' := by (repeat' (first | exact trivial | exact wfz _ _ | exact rfl | exact dyR rfl | exact dyS rfl | refine waQ rfl ?_ | refine waE ?_ | exact waT (by repeat' (first | exact trivial | decide | apply And.intro)) | apply And.intro | (simp only [go_sem, ↓reduceIte]; done)))) : ObjFn P G f args H res H' := by
 subst hn he
 intro B φ vs h0 h1 h2 h3
 refine (Fn.intro hf hb hN h B φ vs h0 h1 h2 h3).mono ?_
 rintro e' w' ⟨v, p, K, g', φ', he, ⟨rfl, hle⟩, hv, hs⟩
 exact ⟨v, _, H', g', φ', he, ⟨rfl, rfl⟩, hv.less (fun r x hx => wbF hle r x hx) hrf, hs.less (fun r x hx => wbF hle r x hx) (fun r x hx => weE hrh r x hx)⟩
theorem rtO {fn : Func} {p res : PV} {H' : wac} (hp : whT P G fn.results.toList σ = some p := by (simp only [go_sem, List.length_append, List.length_set, List.length_replicate, ↓reduceIte]; rfl))
  (hd : σ.dfr = [] := by first | exact True.intro | rfl) (hpr : p = res := by first | rfl | (simp only [go_sem, wd8, wnL, ↓reduceIte]; done))
  (hle : wc6 H' σ.heap := by (repeat' (first | exact trivial | exact rfl | exact dyR rfl | exact dyS rfl | refine waQ rfl ?_ | refine waE ?_ | exact waT (by repeat' (first | exact trivial | decide | apply And.intro)) | (simp only [List.length_append, List.length_set, List.length_replicate, List.length_cons, List.length_nil, Nat.zero_add]; exact rfl) | apply And.intro))) : Fin P G fn (fun p K => p = res ∧ wc6 H' K) .ret σ := ⟨p, hp, hd, hpr, hle⟩
def wfd (Hc : wac) (g : Nat → Nat) (H0 : wac) : wac → Prop
 | [] => True
 | (r, x) :: l => (waa Hc (g r) = some (x.ren g) ∧ refsInL H0 x.els) ∧ wfd Hc g H0 l
def wkJ (g : Nat → Nat) (gs : List Nat) : wac → Prop
 | [] => True
 | (r, _) :: l => (if r < 1000 then gs.contains (g r) = false else gs.contains (g r) = true) ∧ wkJ g gs l
def wnk (g : Nat → Nat) (H : wac) : List Nat → Prop
 | [] => True
 | s :: l => ((H.any fun x => g x.1 == s) = true ∧ 1000 ≤ s) ∧ wnk g H l
def whN (gs : List Nat) : List (Nat × PV) → Prop
 | [] => True
 | (_, v) :: l => ((rowsOf v).any fun r => gs.contains r) = false ∧ whN gs l
def wgX (g : Nat → Nat) (H : wac) (gs : List Nat) : wac → Prop
 | [] => True
 | (s, x) :: l => ((H.any fun y => g y.1 == s) = true ∨ ((rowsOfL x.els).any fun r => gs.contains r) = false) ∧ wgX g H gs l
def whp (H : wac) (g : Nat → Nat) (gs : List Nat) (H0 : wac) : wac → Prop
 | [] => True
 | (r, x) :: l => ((if r < 1000 then match waa H r with
   | some y => x.k = y.k ∧ (x.k = 0 ∨ x.els.length = y.els.length)
   | none => False
  else gs.contains (g r) = true ∧ 1000 ≤ g r) ∧ refsInL H0 x.els ∧ cleanL x.els) ∧ whp H g gs H0 l
theorem we1 {Hc : wac} {g : Nat → Nat} {H0 : wac} : ∀ {l : wac}, wfd Hc g H0 l → ∀ r x, waa l r = some x → waa Hc (g r) = some (x.ren g) ∧ refsInL H0 x.els
 | [], _, r, x, h => by simp [waa] at h
 | (s, y) :: l, h, r, x, hx => by
  simp only [waa] at hx
  split at hx
  ·rename_i e; subst e; cases hx; exact h.1
  ·exact we1 h.2 r x hx
theorem wh0 {g : Nat → Nat} {gs : List Nat} : ∀ {l : wac}, wkJ g gs l → ∀ r x, waa l r = some x → if r < 1000 then g r ∉ gs else g r ∈ gs
 | [], _, r, x, h => by simp [waa] at h
 | (s, y) :: l, h, r, x, hx => by
  simp only [waa] at hx
  split at hx
  ·rename_i e; subst e
   have := h.1
   split at this <;> rename_i hlt
   ·rw [if_pos hlt]; simpa using this
   ·rw [if_neg hlt]; simpa using this
  ·exact wh0 h.2 r x hx
theorem whb {g : Nat → Nat} {s : Nat} : ∀ {H : wac}, (H.any fun x => g x.1 == s) = true → ∃ r x, waa H r = some x ∧ g r = s
 | [], h => by simp at h
 | (r, x) :: l, h => by
  by_cases hr : g r = s
  ·exact ⟨r, x, by simp [waa], hr⟩
  ·have : (l.any fun x => g x.1 == s) = true := by simpa [hr] using h
   obtain ⟨r', x', h1, h2⟩ := whb this
   have hne : r ≠ r' := fun e => hr (e ▸ h2)
   exact ⟨r', x', by simp only [waa, if_neg hne]; exact h1, h2⟩
theorem wh1 {g : Nat → Nat} {H : wac} : ∀ {l : List Nat}, wnk g H l → ∀ s ∈ l, (∃ r x, waa H r = some x ∧ g r = s) ∧ 1000 ≤ s
 | s0 :: l, h, s, hs => by
  rcases List.mem_cons.1 hs with rfl | hs
  ·exact ⟨whb h.1.1, h.1.2⟩
  ·exact wh1 h.2 s hs
theorem wjL {gs l : List Nat} (h : (l.any fun r => gs.contains r) = false) : ∀ s ∈ gs, s ∉ l := fun s hs hl => by
 have : (l.any fun r => gs.contains r) = true := List.any_eq_true.2 ⟨s, hl, by simpa using hs⟩
 rw [h] at this; cases this
theorem wiI {gs : List Nat} : ∀ {e : List (Nat × PV)}, whN gs e → ∀ s ∈ gs, ∀ t, s ∉ rowsOf (wam e t)
 | [], _, s, _, t => by simp [wam, rowsOf]
 | (u, v) :: l, h, s, hs, t => by
  simp only [wam]
  split
  ·exact wjL h.1 s hs
  ·exact wiI h.2 s hs t
theorem wh2 {g : Nat → Nat} {H : wac} {gs : List Nat} : ∀ {l : wac}, wgX g H gs l → ∀ s ∈ gs, ∀ t y, waa l t = some y → (∀ r x, waa H r = some x → g r ≠ t) → s ∉ rowsOfL y.els
 | [], _, s, _, t, y, h, _ => by simp [waa] at h
 | (u, v) :: l, h, s, hs, t, y, hy, hn => by
  simp only [waa] at hy
  split at hy
  ·rename_i e; subst e; cases hy
   rcases h.1 with h1 | h1
   ·obtain ⟨r, x, h2, h3⟩ := whb h1
    exact absurd h3 (hn r x h2)
   ·exact wjL h1 s hs
  ·exact wh2 h.2 s hs t y hy hn
theorem we2 {H : wac} {g : Nat → Nat} {gs : List Nat} {H0 : wac} : ∀ {l : wac}, whp H g gs H0 l → ∀ r x, waa l r = some x → (if r < 1000 then match waa H r with
      | some y => x.k = y.k ∧ (x.k = 0 ∨ x.els.length = y.els.length)
      | none => False
    else gs.contains (g r) = true ∧ 1000 ≤ g r) ∧ refsInL H0 x.els ∧ cleanL x.els
  | [], _, r, x, h => by simp [waa] at h
  | (s, y) :: l, h, r, x, hx => by
    simp only [waa] at hx
    split at hx
    · rename_i e; subst e; cases hx; exact h.1
    · exact we2 h.2 r x hx
theorem clU {f : FuncId} {c : Call} {xo : Operand} {caps args : List PV} {res : PV} {H H' : wac} {Q : St → Prop} (gl : List (Nat × Nat)) (gs : List Nat) (hf : ObjFn P G f args H res H') (h2 : AOps P G ro N ops rest σ' Q)
  (hd : wan N o.dst := by (simp only [go_sem, ↓reduceIte]; done)) (hg : ∀ {K : St → Prop}, OpT P G ro N o σ K → wfG P G ro N (wbg ops) o σ K := by (intro K k; simp (disch := omega) only [go_sem, ↓reduceIte]; exact k))
  (ho : o.op = .call c := by rfl) (hc : c.callee = .value xo := by rfl) (hx : wcr (σ.eval xo) = some (f, caps) := by rfl) (hcal : wa1 P f = true := by kernel_rfl)
  (hrow : wfd σ.heap (wax gl) H H := by (simp only [wfd, Row.ren, go_sem, ↓reduceIte]; (repeat' (first | exact trivial | exact rfl | exact dyR rfl | exact dyS rfl | refine waQ rfl ?_ | refine waE ?_ | exact waT (by repeat' (first | exact trivial | decide | apply And.intro)) | (simp only [List.length_append, List.length_set, List.length_replicate, List.length_cons, List.length_nil, Nat.zero_add]; exact rfl) | apply And.intro))))
  (hinj : weW (wax gl) H := by (simp only [weW, wgu, go_sem, ↓reduceIte]; (repeat' (first | exact trivial | (intro h; cases h; done) | apply And.intro))))
  (hgs : wkJ (wax gl) gs H := by (simp only [wkJ, go_sem, ↓reduceIte]; (repeat' (first | exact trivial | exact rfl | exact dyR rfl | exact dyS rfl | refine waQ rfl ?_ | refine waE ?_ | exact waT (by repeat' (first | exact trivial | decide | apply And.intro)) | apply And.intro))))
  (him : wnk (wax gl) H gs := by (repeat' (first | exact trivial | exact rfl | exact dyR rfl | exact dyS rfl | refine waQ rfl ?_ | refine waE ?_ | exact waT (by repeat' (first | exact trivial | decide | apply And.intro)) | decide | apply And.intro)))
  (henv : whN gs σ.env := by (repeat' (first | exact trivial | exact rfl | exact dyR rfl | exact dyS rfl | refine waQ rfl ?_ | refine waE ?_ | exact waT (by repeat' (first | exact trivial | decide | apply And.intro)) | apply And.intro)))
  (hdfr : ((rowsOfL σ.dfr).any fun r => gs.contains r) = false := by rfl)
  (hout : wgX (wax gl) H gs σ.heap := by (repeat' (first | exact trivial | exact .inl rfl | exact .inr rfl | exact .inr (by simp only [go_sem, List.any_nil]) | apply And.intro)))
  (ha : wds σ.heap H (wax gl) (war σ c.args.toList ++ caps) args := by (repeat' (first | exact trivial | exact rfl | exact dyR rfl | exact dyS rfl | refine waQ rfl ?_ | refine waE ?_ | exact waT (by repeat' (first | exact trivial | decide | apply And.intro)) | apply And.intro | (simp only [go_sem, ↓reduceIte]; done))))
  (hback : whp H (wax gl) gs H' H' := by (simp only [whp, go_sem, ↓reduceIte]; (repeat' (first | exact trivial | exact rfl | exact dyR rfl | exact dyS rfl | refine waQ rfl ?_ | refine waE ?_ | exact waT (by repeat' (first | exact trivial | decide | apply And.intro)) | exact .inl trivial | exact .inl rfl | exact .inr rfl | decide | apply And.intro))))
  (hall : whH H' H := by (repeat' (first | exact trivial | exact rfl | exact dyR rfl | exact dyS rfl | refine waQ rfl ?_ | refine waE ?_ | exact waT (by repeat' (first | exact trivial | decide | apply And.intro)) | apply And.intro)))
  (hinj2 : weW (wax gl) H' := by (simp only [weW, wgu, go_sem, ↓reduceIte]; (repeat' (first | exact trivial | (intro h; cases h; done) | apply And.intro))))
  (hp : ({ σ with heap := wbQ (wax gl) H' (wbA gs σ.heap) } : St).put o.dst (res.ren (wax gl)) = σ' := by (simp only [wbA, Row.ren, go_sem, ↓reduceIte]; rfl))
  (hcl : clean res := by (simp only [clean, cleanL, and_self]; done)) (hrf : refsIn H' res := by (first | exact trivial | exact rfl | exact dyR rfl | exact dyS rfl | refine waQ rfl ?_ | refine waE ?_ | exact waT (by repeat' (first | exact trivial | decide | apply And.intro)) | (simp only [go_sem, ↓reduceIte]; done))) :
  AOps P G ro N ops (o :: rest) σ Q := by
 refine AOps.consC hd fun K hK => hg ?_
 refine OpT.callU (H := H) (g := wax gl) (gs := gs) ho hc hx hcal hf ⟨⟨fun r x h => (we1 hrow r x h).1, fun r s x y h h' => weX hinj r s x y (waW h) (waW h'), fun r x h => (we1 hrow r x h).2⟩, fun r x h hr => ?_, fun r x h hr => ?_, fun s hs => (wh1 him s hs).1, fun s hs => (wh1 him s hs).2, wiI henv, wjL hdfr, wh2 hout⟩ ha hd ?_
 ·have := wh0 hgs r x h
  rw [if_neg (by omega)] at this; exact this
 ·have := wh0 hgs r x h
  rw [if_pos hr] at this; exact this
 ·rintro p K' ⟨rfl, rfl⟩
  refine ⟨wax gl, ⟨fun r x h hr => ?_, fun r x h _ => Option.isSome_iff_exists.1 (whn hall r x (waW h)), fun r x h hr => ?_, fun r s x y h h' => weX hinj2 r s x y (waW h) (waW h'), fun r x h => (we2 hback r x h).2⟩, hcl, hrf, hp ▸ hK _ h2⟩
  ·have := (we2 hback r x h).1
   rw [if_pos hr] at this
   split at this
   ·rename_i y hy; exact ⟨y, hy, rfl, this.1, fun hk => this.2.resolve_left (by have := this.1; omega)⟩
   ·exact this.elim
  ·have := (we2 hback r x h).1
   rw [if_neg (by omega)] at this
   exact ⟨.inr (by simpa using this.1), this.2⟩
theorem OpX.callC {xs : Exc} {K : Foot → St → Prop} {c : Call} {f : FuncId} {xo : Operand} {caps args : List PV} {res : PV} (ho : o.op = .call c) (hc : c.callee = .value xo) (hx : wcr (σ.eval xo) = some (f, caps)) (hcal : wa1 P f = true)
  (hf : PureFn P G f args res) (ha : ∀ H0, wds H0 [] id (war σ c.args.toList ++ caps) args) (hd : wan N o.dst) (hcl : clean res) (hrf : refsIn [] res) (hren : res.ren id = res) (hxe : exE xs (waJ o.dst res))
  (hK : K (some (waF (xo :: waq o.op), waN o.dst)) (σ.put o.dst res)) : OpX P G ro N xs o σ K := by
 refine ⟨some (waF (xo :: waq o.op), waN o.dst), σ.put o.dst res, ⟨waJ o.dst res, fun k hk => by rw [wci] at hk; exact hk, hxe, fun σ' hd' hs _ => ?_, wbd _ _ _, St.put_rest _ _ _⟩, hK⟩
 have h1 := wcp (σ := σ) (σ' := σ') (l := xo :: waq o.op) fun k hk => hs k hk
 rw [ho] at h1
 refine OpT.callG (H := []) (g := id) (gc := none) (caps := caps) (args := args) ho hc (by rw [h1 xo (by simp)]; exact hx) hcal hf (wjx σ') (.inl rfl) ?_ hd ?_
 ·rw [wbO (l := c.args.toList) fun x hx => h1 x (by simp [waq, hx])]; exact ha _
 ·rintro p H' g' ⟨rfl, rfl⟩
  refine ⟨id, ⟨fun r x' h => by simp [waa] at h, fun r x h => by simp [waa] at h, fun r x' h => by simp [waa] at h, fun r s x y h => by simp [waa] at h, fun r x h => by simp [waa] at h⟩, hcl, hrf, ?_⟩
  rw [hren]
  exact ⟨by rw [St.put_rest]; exact hd', wbd _ _ _⟩
theorem ws2 {f : FuncId} {c : Call} {xo : Operand} {caps args : List PV} {res : PV} {xs : Exc} {acc : List Foot} {ft : Foot} {Q : St → Prop} (hf : PureFn P G f args res) (h2 : DOps P G ro N xs ops Q rest (acc ++ [ft]) σ')
  (ho : o.op = .call c := by rfl) (hc : c.callee = .value xo := by rfl) (hx : wcr (σ.eval xo) = some (f, caps) := by rfl) (hcal : wa1 P f = true := by kernel_rfl)
  (ha : ∀ H0, wds H0 [] id (war σ c.args.toList ++ caps) args := by (intro H0; repeat' (first | exact trivial | exact rfl | exact dyR rfl | exact dyS rfl | refine waQ rfl ?_ | refine waE ?_ | exact waT (by repeat' (first | exact trivial | decide | apply And.intro)) | apply And.intro | (simp only [go_sem, ↓reduceIte]; done)))) (hd : wan N o.dst := by (simp only [go_sem, ↓reduceIte]; done))
  (hp : σ.put o.dst res = σ' := by (simp only [go_sem, ↓reduceIte]; rfl)) (hcl : clean res := by (simp only [clean, cleanL, and_self]; done)) (hrf : refsIn [] res := by (simp only [go_sem]; done)) (hren : res.ren id = res := by rfl) (hxe : exE xs (waJ o.dst res) := by (simp only [go_sem, or_true, true_or, ↓reduceIte]; done))
  (hg : ∀ (S : (Foot → St → Prop) → Prop) (K : Foot → St → Prop), (∀ K', K' (some (waF (xo :: waq o.op), waN o.dst)) σ' → S K') → K ft σ' → weF N (wbg ops) o σ S K := by (intro S K hS k; simp (disch := omega) only [go_sem, ↓reduceIte]; exact hS _ k)) : DOps P G ro N xs ops Q (o :: rest) acc σ :=
 DOps.consC fun _ hK => hg _ _ (fun _ hK' => OpX.callC ho hc hx hcal hf ha hd hcl hrf hren hxe (by rw [hp]; exact hK')) (hK _ _ h2)
theorem FnG.nilAt {P : Program} {G : List (Nat × PD)} {f : FuncId} {args : List PV} {H : wac} {g : Gh} {R : PV → wac → Gh → Prop} (i : Nat) {k : Nat} (h : FnG P G f args H g R) (hi : args[i]? = some (.d (.imm k []))) : FnG P G f (args.set i (.d .nilslice)) H g R := by
 intro B φ vs h0 h1 h2 h3
 have hl : args.length = (args.set i (.d .nilslice)).length := by simp
 refine h B φ vs h0 (h1.trans hl.symm) (fun j hj => ?_) h3
 have h4 := h2 j (by omega)
 by_cases hij : i = j
 ·subst hij
  obtain ⟨_, e⟩ := List.getElem?_eq_some_iff.1 hi
  rw [e]
  rw [List.getElem_set_self] at h4
  exact h4.le (woV (f := PD.bool) k)
 ·rw [List.getElem_set_ne hij] at h4; exact h4
theorem PureFn.nilAt {P : Program} {G : List (Nat × PD)} {f : FuncId} {args : List PV} {res : PV} (i : Nat) {k : Nat} (h : PureFn P G f args res) (hi : args[i]? = some (.d (.imm k []))) : PureFn P G f (args.set i (.d .nilslice)) res := FnG.nilAt i h hi
theorem ObjFn.nilAt {P : Program} {G : List (Nat × PD)} {f : FuncId} {args : List PV} {H H' : wac} {res : PV} (i : Nat) {k : Nat} (h : ObjFn P G f args H res H') (hi : args[i]? = some (.d (.imm k []))) : ObjFn P G f (args.set i (.d .nilslice)) H res H' := FnG.nilAt i h hi
theorem RowFn.pure {P : Program} {G : List (Nat × PD)} {f : FuncId} {args : List PV} {e k : Nat} {l : List PD} (h : RowFn P G f args e k l) : PureFn P G f args (.d (.imm k l)) := by
 intro B φ vs h0 h1 h2 h3
 refine (h B φ vs h0 h1 h2 h3).mono ?_
 rintro e' w' ⟨v, p, H', g', φ', he, ⟨rfl, rfl⟩, hv, hs⟩
 have hf : frzT [(1000, { e, k, els := dl l })] (.slc 1000 0 l.length) = some (.d (.imm k l)) := by
  simp only [frzT, frz, waa, ↓reduceIte, dl_allD, Option.map_some, List.drop_zero, List.take_length]
 exact ⟨v, _, [], g', φ', he, ⟨rfl, rfl⟩, wk5 hs.heap hv hf, hs.drop⟩
theorem omk {α β : Type} (encK : α → PD) (encV : β → PD) (r0 : Nat) {t : TypeId} {Q : St → Prop} (h2 : AOps P G ro N ops rest σ' Q)
  (hd : wan N o.dst := by (simp only [go_sem, ↓reduceIte]; done)) (hg : ∀ {K : St → Prop}, OpT P G ro N o σ K → wfG P G ro N (wbg ops) o σ K := by (intro K k; simp (disch := omega) only [go_sem, ↓reduceIte]; exact k))
  (ho : o.op = .makeMap t none := by rfl) (hr0 : waa σ.heap r0 = none := by first | rfl | exact dyR rfl) (hp0 : 1000 ≤ r0 := by decide)
  (hp : ({ σ with heap := waj σ.heap r0 ⟨t, 0, wap encK encV ([] : List (α × β))⟩ } : St).put o.dst (.mp r0) = σ' := by (simp only [go_sem, ↓reduceIte]; rfl)) : AOps P G ro N ops (o :: rest) σ Q :=
 AOps.consC hd fun _ hK => hg (OpT.makeMap ho hd hr0 hp0 (hp ▸ hK _ h2))
theorem oml {α β : Type} [DecidableEq α] {kt et t : TypeId} {x ix : Operand} {cok : Bool} {r e : Nat} {L : List (α × β)} {k : α} {v0 : β} {encK : α → PD} {valK : α → Value} {encV : β → PD} {y : Ty} {z : Value} {Q : St → Prop} (hK : KeyEnc P kt encK valK) (ht : P.underlying t = some (.map kt et))
  (hy : wad P et = some y) (hz : y.zero = some z) (hzv : ∀ (w : World) (ok : Nat → Prop), RepD w ok z (encV v0)) (h2 : AOps P G ro N ops rest σ' Q)
  (hd : wan N o.dst := by (simp only [go_sem, ↓reduceIte]; done)) (hg : ∀ {K : St → Prop}, OpT P G ro N o σ K → wfG P G ro N (wbg ops) o σ K := by (intro K k; simp (disch := omega) only [go_sem, ↓reduceIte]; exact k))
  (ho : o.op = .lookup t x ix cok := by rfl) (hx : σ.eval x = .mp r := by rfl) (hrow : waa σ.heap r = some ⟨e, 0, wap encK encV L⟩ := by first | rfl | exact dyR rfl) (hi : σ.eval ix = .d (encK k) := by rfl)
  (hp : σ.put o.dst (if cok then .tuple [.d (encV ((waP k L).getD v0)), .d (.bool (waP k L).isSome)] else .d (encV ((waP k L).getD v0))) = σ' := by (simp only [go_sem, ↓reduceIte]; rfl)) : AOps P G ro N ops (o :: rest) σ Q :=
 AOps.consC hd fun _ hq => hg (OpT.lookup hK ho ht hx hrow hi hy hz hzv hd (hp ▸ hq _ h2))
theorem oms {α β : Type} [DecidableEq α] {kt et t : TypeId} {m ix x : Operand} {r e : Nat} {L : List (α × β)} {k : α} {v : β} {encK : α → PD} {valK : α → Value} {encV : β → PD} {Q : St → Prop} (hK : KeyEnc P kt encK valK) (ht : P.underlying t = some (.map kt et)) (h2 : AOps P G ro N ops rest σ' Q)
  (hd : wan N o.dst := by (simp only [go_sem, ↓reduceIte]; done)) (hg : ∀ {K : St → Prop}, OpT P G ro N o σ K → wfG P G ro N (wbg ops) o σ K := by (intro K k; simp (disch := omega) only [go_sem, ↓reduceIte]; exact k))
  (ho : o.op = .mapUpdate t m ix x ∨ o.op = .insert t m ix x := by first | exact .inl rfl | exact .inr rfl) (hx : σ.eval m = .mp r := by rfl) (hrow : waa σ.heap r = some ⟨e, 0, wap encK encV L⟩ := by first | rfl | exact dyR rfl) (hi : σ.eval ix = .d (encK k) := by rfl) (hv : σ.eval x = .d (encV v) := by rfl)
  (hp : ({ σ with heap := waj σ.heap r ⟨e, 0, wap encK encV (wdt k v L)⟩ } : St).put o.dst .any = σ' := by (simp only [go_sem, ↓reduceIte]; rfl)) : AOps P G ro N ops (o :: rest) σ Q :=
 AOps.consC hd fun _ hq => hg (OpT.mapSet hK ho ht hx hrow hi hv hd (hp ▸ hq _ h2))
theorem sdX {id : Nat} {l : List Oper} {y : Code} {Q : Post} (hm : P.follows .mixedOrders = true) (xs : Exc) (h : ∀ K : St → Prop, (∀ σ, AWp P G ro N y σ Q → K σ) → DOps P G ro N xs l.toArray K l [] σ)
  (hxs : exIni σ xs := by (repeat' (first | exact trivial | exact .inl rfl | apply And.intro | refine .inr ⟨?_, ?_⟩ | exact .inr rfl | refine wmw ?_ | exact .inr (wmv _ _ _) | exact .inr (wnO (by decide)) | exact .inr (wi5 (by decide) rfl) | exact .inr (wlC rfl rfl) | exact .inr (by simp only [go_sem, rowsOf, rowsOfL, dl_rows, List.contains_nil, List.append_nil, List.nil_append]; done)))) :
  AWp P G ro N (.seq (.region id l.toArray true) y) σ Q :=
 AWp.seq fun K hK => AWp.drawX hm xs hxs (h K hK)
theorem drX {id : Nat} {l : List Oper} {Q : Post} (hm : P.follows .mixedOrders = true) (xs : Exc) (h : DOps P G ro N xs l.toArray (Q .normal) l [] σ)
  (hxs : exIni σ xs := by (repeat' (first | exact trivial | exact .inl rfl | apply And.intro | refine .inr ⟨?_, ?_⟩ | exact .inr rfl | refine wmw ?_ | exact .inr (wmv _ _ _) | exact .inr (wnO (by decide)) | exact .inr (wi5 (by decide) rfl) | exact .inr (wlC rfl rfl) | exact .inr (by simp only [go_sem, rowsOf, rowsOfL, dl_rows, List.contains_nil, List.append_nil, List.nil_append]; done)))) :
  AWp P G ro N (.region id l.toArray true) σ Q := AWp.drawX hm xs hxs h
theorem wnl {xs : Exc} {acc : List Foot} {Q : St → Prop} {c : Call} {t e ts d r n : Nat} {xo : Operand} {z : Ty} {row : Row} (S : List Nat) (Sh : wac) (L : List PV) (hel : wbt P t = some (e, z))
  (h2 : DOps P G ro N xs ops Q rest (acc ++ [some (.h r :: (waF (waq o.op) ++ wcS σ (waq o.op) ++ (S.map .t ++ wcN Sh)), .t d :: .h r :: .t ts :: wcN Sh)]) σ')
  (hg : o.guard = none := by rfl) (ho : o.op = .call c := by rfl) (hcb : c.callee = .builtin .append := by rfl) (hct : c.argTypes = #[t, t] := by rfl) (hca : c.args = #[.tmp ts, xo] := by rfl) (hdst : o.dst = some d := by rfl) (hd : d < N := by decide)
  (hs : wam σ.env ts = .slc r 0 n := by rfl) (hx : waa σ.heap r = some row := by first | rfl | exact dyR rfl)
  (hz : waf z = true := by (simp only [go_sem]; done)) (hL : wfx z.size σ.heap (σ.eval xo) = some L := by (simp only [go_sem, ↓reduceIte]; try rfl)) (hn : row.els.length = n := by first | (simp only [go_sem]; done) | rfl) (hre : row.e = e := by rfl) (hrk : row.k = z.size := by first | (simp only [go_sem]; done) | rfl) (hp0 : 1000 ≤ r := by decide)
  (h63 : n + L.length ≤ 9223372036854775807 := by (simp only [go_sem, List.length_nil, List.length_cons]; omega)) (hbytes : (n + L.length) * z.bytes ≤ 140737488355328 := by (simp only [go_sem, List.length_nil, List.length_cons]; omega))
  (hS : wgU xs r S := by (simp only [wgU, true_and, true_or, or_true, and_self]; done)) (hSs : S.contains ts = true := by decide) (hSd : S.contains d = true := by decide) (hne : d ≠ ts := by decide)
  (hlead : wgV σ.env r ts S := by (repeat' (first | exact trivial | exact .inl rfl | exact .inr rfl | apply And.intro))) (hcod : wgW Sh S := by (repeat' (first | exact trivial | exact .inl (by decide) | exact .inr rfl | apply And.intro)))
  (hcel : whY σ.heap r Sh := by (repeat' (first | exact trivial | exact rfl | exact dyR rfl | exact dyS rfl | refine waQ rfl ?_ | refine waE ?_ | exact waT (by repeat' (first | exact trivial | decide | apply And.intro)) | decide | apply And.intro))) (hrm : r ∉ rowsOfL row.els := by first | exact weR rfl | exact weR (dl_rows _) | exact wjI (by decide) | exact wiu (by decide) rfl | exact weR (by (simp only [go_sem]; done))) (hLm : r ∉ rowsOfL L := by first | exact weR rfl | exact weR (dl_rows _) | exact weR (by (simp only [go_sem]; done))) (hdm : (rowsOfL σ.dfr).contains r = false := by rfl)
  (hxe : exE xs ((.t d, .v (.slc r 0 (n + L.length))) :: (.h r, .r (some { row with els := row.els ++ L })) :: (.t ts, .v .any) :: wd4 r Sh) := by (simp (disch := omega) only [go_sem, wd4, Nat.reduceAdd, true_or, or_true, and_self, true_and, ↓reduceIte]; done))
  (hp : ({ σ with env := wcK (wcK σ.env ts .any) d (.slc r 0 (n + L.length)), heap := waj (wgt r Sh σ.heap) r { row with els := row.els ++ L } } : St) = σ' := by (simp only [go_sem, wgt, ↓reduceIte]; rfl)) : DOps P G ro N xs ops Q (o :: rest) acc σ := by
 obtain ⟨f1, σ1, h3, h4, h5⟩ := OpX.appH (K := fun f1 σ1 => f1 = some (.h r :: (waF (waq o.op) ++ wcS σ (waq o.op) ++ (S.map .t ++ wcN Sh)), .t d :: .h r :: .t ts :: wcN Sh) ∧ σ1 = σ') Sh ho hcb hct hca hdst hd hel hz hs hx hL hn hre hrk hp0 h63 hbytes hS hSs hSd hne hlead hcod hcel hrm hLm hdm hxe ⟨rfl, hp⟩
 rw [h4, h5] at h3
 exact .step (DStep.plain hg h3) h2
theorem wqG : ∀ {p : PV}, wdr p = true → wa0 p = false
 | .d x, h => by cases x <;> simp [wdr] at h <;> rfl
 | .any, _ | .b _, _ | .ptr .., _ | .dptr .., _ | .bptr .., _ | .glob _, _ | .val _, _ | .slc .., _ | .mp _, _ | .func .., _ | .agg _, _ | .tuple _, _ => rfl
theorem Sub.voidCell (s i e k r : Nat) {x : Row} {p : PV} {cs : List PV} (hs : waa σ.heap s = some x) (hk1 : 1 ≤ x.k) (hels : x.els = [p]) (hp : wdr p = true) (hcs : waz p = some cs) (hi : cs[i]? = some (.d .nilslice)) (hr0 : waa σ.heap r = none) (hr : 1000 ≤ r) (hk : 1 ≤ k) :
  Sub G N σ { env := σ.env, heap := waj (waj σ.heap s { x with els := [.agg (cs.set i (.slc r 0 0))] }) r { e, k, els := [] }, dfr := σ.dfr, gh := σ.gh } := by
 intro P B a w φ hrep
 have hsr : s ≠ r := fun h => by subst h; rw [hs] at hr0; cases hr0
 have hgetr : waa (waj (waj σ.heap s { x with els := [.agg (cs.set i (.slc r 0 0))] }) r { e, k, els := [] }) r = some { e, k, els := [] } := by rw [wag]; simp
 have hgets : waa (waj (waj σ.heap s { x with els := [.agg (cs.set i (.slc r 0 0))] }) r { e, k, els := [] }) s = some { x with els := [.agg (cs.set i (.slc r 0 0))] } := by
  rw [wag, if_neg (Ne.symm hsr), wag]; simp
 have hgeto : ∀ t, t ≠ r → t ≠ s → waa (waj (waj σ.heap s { x with els := [.agg (cs.set i (.slc r 0 0))] }) r { e, k, els := [] }) t = waa σ.heap t := fun t h1 h2 => by
  rw [wag, if_neg (Ne.symm h1), wag, if_neg (Ne.symm h2)]
 obtain ⟨H2, hH2⟩ : ∃ H2, H2 = waj (waj σ.heap s { x with els := [.agg (cs.set i (.slc r 0 0))] }) r { e, k, els := [] } := ⟨_, rfl⟩
 rw [← hH2] at hgetr hgets hgeto ⊢
 have hback : ∀ t y, t ≠ r → waa H2 t = some y → ∃ y', waa σ.heap t = some y' ∧ y.k = y'.k ∧ y.e = y'.e ∧ y.els.length = y'.els.length := fun t y h1 h => by
  by_cases h2 : t = s
  ·subst h2; rw [hgets] at h; cases h; exact ⟨x, hs, rfl, rfl, by simp [hels]⟩
  ·rw [hgeto t h1 h2] at h; exact ⟨y, h, rfl, rfl, rfl⟩
 have hrow : ∀ b, waC (upd φ r none) H2 b → waC φ σ.heap b := by
  rintro b ⟨t, y, h1, h2⟩
  by_cases ht : t = r
  ·subst ht; simp [upd] at h2
  ·simp only [upd, ht, if_false] at h2
   obtain ⟨y', h3, _⟩ := hback t y ht h1
   exact ⟨t, y', h3, h2⟩
 have hown : ∀ b, own (upd φ r none) H2 b → own φ σ.heap b := fun b h => h.imp (hrow b) id
 have hext : Ext w B.X φ σ.heap w (upd φ r none) H2 := by
  refine ⟨fun t y h => ?_, fun b h => ⟨h.1, h.2.1, fun ho => h.2.2 (hown b ho)⟩, fun b h => ⟨h.1, fun ho => h.2 (hown b ho)⟩, fun _ _ => rfl, fun t y b _ _ c e f hh => ⟨c, e, f, hh, rfl⟩⟩
  have htr : t ≠ r := fun e => by subst e; rw [hr0] at h; cases h
  by_cases ht : t = s
  ·subst ht; rw [hs] at h; cases h
   exact ⟨_, hgets, rfl, fun _ => by simp [hels], by simp [upd, htr]⟩
  ·exact ⟨y, (hgeto t htr ht).trans h, rfl, fun _ => rfl, by simp [upd, htr]⟩
 have hval : ∀ v, RepV w B.X φ σ.heap v p → RepV w B.X (upd φ r none) H2 v (.agg (cs.set i (.slc r 0 0))) := fun v hv => by
  obtain ⟨vs, rfl⟩ := RepV.agg_of hp hv
  have h1 := wc4 hcs (hv.ext hext)
  have hil : i < cs.length := (List.getElem?_eq_some_iff.1 hi).1
  have h2 : RepV w B.X (upd φ r none) H2 (vs.getD i undef) (.slc r 0 0) := by
   have h3 := h1.rep i hil
   rw [(List.getElem?_eq_some_iff.1 hi).2] at h3
   have h4 := wei (waL h3)
   simp only [Value.cells] at h4
   rw [h4]
   exact .slc0 hgetr (by simp [upd]) hk (by simp)
  have h5 := h1.set i h2 (by have := h1.flat i hil; simpa only [Value.cells] using this)
  have h6 : (Value.agg vs).cells.setIfInBounds i (vs.getD i undef) = vs := by
   apply Array.ext
   ·simp [Value.cells]
   ·intro j h1 h2
    by_cases hji : i = j
    ·subst hji; simp [Value.cells, Array.getD, h2]
    ·exact Array.getElem_setIfInBounds_ne h2 hji
  rw [h6] at h5
  exact .agg h5.size h5.rep h5.flat
 refine ⟨upd φ r none, Rep.of_sit ⟨⟨fun t y b ht hb => ?_, fun t y ht hb => ?_, fun t u y z b ht hu hb hb' => ?_, fun b hT => ⟨(hrep.heap.far b hT).1, (hrep.heap.far b hT).2.1, fun h => (hrep.heap.far b hT).2.2 (hrow b h)⟩⟩, hrep.keeps, fun t y b ht hb => ?_, fun t y ht hp' => ?_, fun t y b ht hp' hb => ?_, ?_, hrep.tnew, wdW (w := w) (φ := φ) (H := σ.heap) hrep.inv rfl rfl rfl rfl (Nat.le_refl _) (fun _ _ _ => rfl) (fun b hb => .inl (hrow b hb))⟩ hrep.size (fun t => (hrep.env t).ext hext) (hrep.dfr.ext hext)⟩
 ·have htr : t ≠ r := fun e => by subst e; simp [upd] at hb
  simp only [upd, htr, if_false] at hb
  by_cases h : t = s
  ·subst h; rw [hgets] at ht; cases ht
   refine (hrep.heap.rows t x b hs hb).turn rfl rfl (by simp [hels]) (fun _ _ h => h) (hrep.heap.rows t x b hs hb).free (fun j hj hj' v hv => ?_) fun z hz => by
    have hpb : wa0 p = false := wqG hp
    have := hz.zero_of fun q hq => by rw [hels] at hq; simp at hq; rw [hq]; exact hpb
    subst this; exact .zero _
   have hj0 : j = 0 := by simp [hels] at hj; exact hj
   subst hj0
   have e1 : x.els[0] = p := by simp [hels]
   rw [e1] at hv
   exact hval v hv
  ·rw [hgeto t htr h] at ht
   exact (hrep.heap.rows t y b ht hb).ext hext rfl
 ·by_cases htr : t = r
  ·subst htr; rw [hgetr] at ht; cases ht; rfl
  ·simp only [upd, htr, if_false] at hb
   obtain ⟨y', h1, _, _, h4⟩ := hback t y htr ht
   have := hrep.heap.void t y' h1 hb
   rw [this] at h4
   exact List.eq_nil_of_length_eq_zero h4
 ·have htr : t ≠ r := fun e => by subst e; simp [upd] at hb
  have hur : u ≠ r := fun e => by subst e; simp [upd] at hb'
  simp only [upd, htr, hur, if_false] at hb hb'
  obtain ⟨y', h1, _⟩ := hback t y htr ht
  obtain ⟨z', h2, _⟩ := hback u z hur hu
  exact hrep.heap.inj t u y' z' b h1 h2 hb hb'
 ·have htr : t ≠ r := fun e => by subst e; simp [upd] at hb
  simp only [upd, htr, if_false] at hb
  obtain ⟨y', h1, _⟩ := hback t y htr ht
  exact hrep.new t y' b h1 hb
 ·have hlt : t < 1000 := by simpa [pinned] using hp'
  have htr : t ≠ r := by omega
  simp only [upd, htr, if_false]
  obtain ⟨y', h1, _⟩ := hback t y htr ht
  exact hrep.pins t y' h1 hp'
 ·have hlt : t < 1000 := by simpa [pinned] using hp'
  have htr : t ≠ r := by omega
  simp only [upd, htr, if_false] at hb
  obtain ⟨y', h1, _⟩ := hback t y htr ht
  exact hrep.psz t y' b h1 hp' hb
 ·exact hrep.glob.ext hext (fun g x hm => by obtain ⟨_, _, _, _, _, h2, _⟩ := hrep.glob g x hm; exact fun ho => h2 (hown g ho))
end
attribute [go_sem] wfd wkJ wnk whN wgX whp wbA wgt wcN wd4 whY wgW
end Go.Pv

namespace Go.Pv
open Go.Lib
def wbY (s : ByteArray) : List Int := s.data.toList.map fun b => (b.toNat : Int)
theorem wek (s : ByteArray) : (wbY s).length = s.size := by simp [wbY]
theorem wo1 (s : ByteArray) : (wbY s).map (Value.int .u8) = strCells s := by simp [wbY, strCells]
section
variable {P : Program} {G : List (Nat × PD)} {ro : Option Nat} {N : Nat} {o : Oper} {σ : St} {K : St → Prop}
theorem wnm (P : Program) (w : World) (t u ty e : TypeId) {y z : Ty} (ht : wad P t = some y) (hd : y.desc = .slice e) (hu : P.underlying u = some .string) (he : wad P e = some z) (hz : z.zero = some (.int .u8 0)) (hz1 : z.size = 1) (hz2 : z.bytes = 1)
    (v : Value) (b : Option Nat) (n : Nat) (old : List Value) (hold : old.length = n) (z0 : Nat) (hz0 : z0 ≤ n)
    (hv : ((∃ p0, v = .slice p0 0 0) ∧ b = none ∧ n = 0) ∨ ∃ g cap cur, v = .slice (some ⟨g, 0, none⟩) n cap ∧ b = some g ∧ w.heap[g]? = some (.cells cur e (0, z0)) ∧ n ≤ cap ∧ cap ≤ maxLen ∧ cur.size = cap * 1 ∧ cur.toList.take n = old)
    (s : ByteArray) (hm : 1 ≤ s.size) (h63 : n + s.size ≤ maxLen) (hbytes : n + s.size ≤ 140737488355328) :
    ∃ v' w', (Builtin.append_ #[t, u] ty #[v, .string s]).run P w = .ok v' w' ∧ Appended w w' e 1 b n s.size old (strCells s) v' z0 := by
  obtain ⟨hue, it, hit, hs1, hs2, hs3⟩ := waZ he
  have hut : P.underlying t = some (.slice e) := by rw [(waZ ht).1, hd]
  have hs1' : it.size = 1 := hs1.trans hz1
  have hs2' : it.bytes = 1 := hs2.trans hz2
  have hsmall : n + s.size ≤ 9223372036854775807 := by simp only [maxLen] at h63; omega
  have hlen : (old ++ strCells s).length = (n + s.size) * 1 := by rw [List.length_append, hold, strCells_length, Nat.mul_one]
  have grown : ∀ (cp : Nat), cp < n + s.size → Appended w (w.drew.alloc (.cells (old.toArray ++ (strCells s).toArray ++ Builtin.zeroCells (Value.int .u8 0).cells (grownCap w (n + s.size) cp e - (n + s.size))) e)) e 1 b n s.size old (strCells s)
        (.slice (some ⟨w.heap.size, 0, none⟩) (n + s.size) (grownCap w (n + s.size) cp e)) z0 := by
    intro cp ho
    have hge := grownCap_ge w (n + s.size) cp e
    have hcm : grownCap w (n + s.size) cp e ≤ maxLen := grownCap_le_maxLen w (n + s.size) cp e h63
    have hzs : (Value.int IntKind.u8 0).cells.size = 1 := rfl
    refine ⟨⟨w.heap.size, _, _, 0, rfl, heap_alloc_new w.drew _, hge, hcm, ?_, ?_, .inr rfl, .inl rfl⟩, ⟨rfl, rfl, rfl, by simp, fun x hx _ => heap_alloc_old w.drew _ hx⟩⟩
    · simp only [Array.size_append, List.size_toArray, size_zeroCells, hzs, hold, strCells_length]
      omega
    · intro q hq
      rw [← hlen] at hq
      rw [Array.getElem?_append_left (by simpa using hq)]
      simp
  rcases hv with ⟨⟨p0, rfl⟩, rfl, rfl⟩ | ⟨g, cap, cur, rfl, rfl, hg, hnc, hcm, hcs, htake⟩
  · have hx : old = [] := List.eq_nil_of_length_eq_zero hold
    subst hx
    cases p0 with
    | some a0 =>
      have hr := run_append_grow_string (P := P) w t u ty e it (.int .u8 0) hut hu hit (hs3.trans hz) a0 0 0 [] (by simp) (by simp) s (by omega) (by omega) (by rw [hs2']; exact growslice_fits (by omega) (by omega))
      exact ⟨_, _, hr, grown 0 (by omega)⟩
    | none =>
      have hr := run_append_nil_string (P := P) w t u ty e it (.int .u8 0) hut hu hit (hs3.trans hz) s (by omega) (by omega) (by rw [hs2']; omega)
      have hgr := grown 0 (by omega)
      have e1 : (s.data.map fun b => Value.int .u8 b.toNat) = (strCells s).toArray := by
        apply Array.ext'
        simp [strCells]
      simp only [Nat.zero_add, Array.empty_append] at hgr ⊢
      rw [e1] at hr
      exact ⟨_, _, hr, hgr⟩
  · by_cases hroom : n + s.size ≤ cap
    · have hcs' : cur.size = cap := by simpa using hcs
      have hr := run_append_room_stringF (P := P) w t u ty e it hut hu hit hs1' g n cap cur (0, z0) hg hz0 s hroom (by omega)
      refine ⟨_, _, hr, ⟨g, cap, _, z0, rfl, setRow_heap w g cur _ e _ hg, hroom, hcm, ?_, ?_, .inl ⟨rfl, size_setRow _ _ _⟩, .inr rfl⟩, ⟨rfl, rfl, rfl, by simp, fun x _ hx => setRow_other w g x _ (fun e => hx (by rw [e]))⟩⟩
      · simp only [List.size_toArray, List.length_append, List.length_take, List.length_drop, Array.length_toList, strCells_length]
        omega
      · intro q hq
        rw [← hlen] at hq
        rw [htake]
        simp only [List.getElem?_toArray]
        rw [List.getElem?_append_left hq]
    · have holds : ∀ j u, old[j]? = some u → w.cell? ((⟨g, 0, none⟩ : Addr).add j) = some u := fun j u hu => by
        rw [wbX, Nat.zero_add, cell_of_row w g j cur e (0, z0) hg]
        rw [← htake, List.getElem?_take] at hu
        split at hu
        · simpa using hu
        · cases hu
      have hr := run_append_grow_string (P := P) w t u ty e it (.int .u8 0) hut hu hit (hs3.trans hz) ⟨g, 0, none⟩ n cap old (by rw [hs1', Nat.mul_one]; exact hold) holds s (by omega) (by omega) (by rw [hs2']; exact growslice_fits (by omega) (by omega))
      exact ⟨_, _, hr, grown cap (by omega)⟩
theorem OpT.appendStr {s x : Operand} {t u e : TypeId} {y z : Ty} {r n : Nat} {row : Row} {str : ByteArray} (ho : o.op = .call { callee := .builtin .append, args := #[s, x], argTypes := #[t, u] })
    (ht : wad P t = some y) (hde : y.desc = .slice e) (hu : P.underlying u = some .string) (he : wad P e = some z) (hz : z.zero = some (.int .u8 0)) (hz1 : z.size = 1) (hz2 : z.bytes = 1)
    (hs : σ.eval s = .slc r 0 n) (hx : waa σ.heap r = some row) (hn : row.els.length = n) (hre : row.e = e) (hrk : row.k = 1) (hp : 1000 ≤ r)
    (hsrc : σ.eval x = .d (.str str)) (hbytes : n + str.size ≤ 140737488355328) (hd : wan N o.dst)
    (hK : K ((σ.grown r row (dl (wab (PD.int .u8) (wbY str)))).put o.dst (.slc r 0 (n + str.size)))) : OpT P G ro N o σ K := by
  intro B hro a w φ hr next Q hnx
  subst hn
  have hsv := hr.eval s
  rw [hs] at hsv
  have hxv := hr.eval x
  rw [hsrc] at hxv
  have hxv := wgO hxv
  have hop : ∀ v' w', (Builtin.append_ #[t, u] o.type #[a.eval s, a.eval x]).run P w = .ok v' w' → (o.semAt ro a.eval).run P w = .ok (.value v') w' := by
    intro v' w' h
    rw [Oper.semAt_eq _ _ _ (fun c hc => by rw [ho] at hc; cases hc)]
    simp only [execOp, ho, resolve, invoke, builtin, Sem.run_bind, Sem.run_pure, Result.andThen_ok, List.map_toArray, List.map_cons, List.map_nil, h]
  have hLl : (dl (wab (PD.int .u8) (wbY str))).length = str.size := by simp [dl, wab, wek]
  obtain ⟨hue, it, hit, hs1, hs2, hs3⟩ := waZ he
  have hut : P.underlying t = some (.slice e) := by rw [(waZ ht).1, hde]
  by_cases hm0 : str.size = 0
  · have hL0 : wbY str = [] := List.eq_nil_of_length_eq_zero (by rw [wek]; exact hm0)
    obtain ⟨h1, h2⟩ := hr.grown_nil hx
    have hrun : (Builtin.append_ #[t, u] o.type #[a.eval s, a.eval x]).run P w = .ok (a.eval s) w := by
      have hc : ∃ b cap, a.eval s = .slice b row.els.length cap ∧ row.els.length ≤ cap := by
        rcases wcM hsv with ⟨⟨p0, h1, _⟩, _, h2, _⟩ | ⟨_, _, cap, h1, _, _, _, h2, _⟩
        · exact ⟨p0, 0, by rw [h1, h2], by omega⟩
        · exact ⟨_, cap, h1, h2⟩
      obtain ⟨b, cap, hc1, hc2⟩ := hc
      rw [hc1, hxv]
      have hf := run_firstCells_string (P := P) w 1 str
      rw [hm0, strCells, show str.data.toList = [] from List.eq_nil_of_length_eq_zero hm0] at hf
      cases b <;> simp [Builtin.append_, run_underlying hut, run_underlying hu, sizeOf, typeInfo, hit, hs1, hz1, Builtin.lenOf, hm0, hf, storeCells, hc2]
    rw [hL0] at hK
    rw [hm0] at hK
    refine waI (hop _ _ hrun) (hnx _ _ _ φ hK (h1.put hd ?_))
    rcases wcM hsv with ⟨⟨p0, h3, hp0⟩, _, h4, h5, _⟩ | ⟨x2, b, cap, h3, hx2, hb, hn, hc, hl, hzz⟩
    · rw [h3, h4]; exact .slc0 h2 h5 (by show 1 ≤ row.k; omega) hp0
    · rw [hx] at hx2; simp only [Option.some.injEq] at hx2; subst hx2
      rw [h3]
      have := RepV.slc (w := w) (X := B.X) (φ := φ) (H := (σ.grown r row []).heap) (x := { row with els := killL r row.els ++ killL r [] }) (lo := 0) (n := row.els.length) (cap := cap) (b := b) h2 hb (by show 1 ≤ row.k; omega) (by simp [wbs]) hc (by simpa [wbs, killL] using hl) hzz
      exact this
  · have hcore : ∃ old z0, headOk z0 row.els ∧ old.length = row.els.length ∧
        (((∃ p0, a.eval s = .slice p0 0 0) ∧ φ r = none ∧ row.els.length = 0) ∨ ∃ g cap cur, a.eval s = .slice (some ⟨g, 0, none⟩) row.els.length cap ∧ φ r = some g ∧ w.heap[g]? = some (.cells cur e (0, z0)) ∧ row.els.length ≤ cap ∧ cap ≤ maxLen ∧ cur.size = cap * 1 ∧ cur.toList.take row.els.length = old) ∧
        ∀ i (hi : i < row.els.length), ∃ v, RepV w B.X φ σ.heap v row.els[i] ∧ v.cells.size = row.k ∧ ∀ j, j < row.k → old[i * row.k + j]? = some (v.cells.getD j undef) ∧ flat (v.cells.getD j undef) = true := by
      rcases wcM hsv with ⟨⟨p0, h3, _⟩, _, h4, h5, _⟩ | ⟨x2, b, cap, h3, hx2, hb, hn, hc, hl, hzz⟩
      · exact ⟨[], 0, .zero _, by simp [h4], .inl ⟨⟨p0, h3⟩, h5, h4⟩, fun i hi => by omega⟩
      · rw [hx] at hx2; simp only [Option.some.injEq] at hx2; subst hx2
        obtain ⟨cur, C, zf, h1, h2, h3', hzf⟩ := (hr.heap.rows r row b hx hb).here (by omega)
        have hsz := hzz _ _ _ h1
        rw [Nat.zero_add] at hsz hl
        have hCc : C = cap := Nat.eq_of_mul_eq_mul_right (by omega) (h2.1.symm.trans hsz)
        rw [hrk, Nat.mul_one] at hsz
        refine ⟨cur.toList.take row.els.length, zf, hzf, by simp; omega, .inr ⟨b, cap, cur, by rw [h3]; simp, hb, by rw [← hre]; exact h1, hc, by omega, by omega, rfl⟩, fun i hi => ?_⟩
        obtain ⟨v, h4, h5, h6⟩ := h3' i hi
        refine ⟨v, h4, h5, fun j hj => ⟨?_, (h6 j hj).2⟩⟩
        have hj0 : j = 0 := by omega
        subst hj0
        rw [hrk, List.getElem?_take, if_pos (by omega)]
        simpa [hrk] using (h6 0 (by omega)).1
    obtain ⟨old, z0, hzf, hol, hvv, hold⟩ := hcore
    obtain ⟨v', w', hrun, happ⟩ := wnm P w t u o.type e ht hde hu he hz hz1 hz2 (a.eval s) (φ r) row.els.length old hol z0 hzf.le hvv str (by omega) (by unfold maxLen; omega) hbytes
    rw [← hxv] at hrun
    rw [← hre, ← hrk] at happ
    obtain ⟨φ', h1, h2⟩ := hr.grown hx (by omega) hp hLl.symm hzf happ hold (by rw [hrk, Nat.mul_one]; exact hol) (fun i hi => by
      have hi' : i < (wbY str).length := by rw [wek]; omega
      refine ⟨.int .u8 (wbY str)[i], ?_, by rw [hrk]; rfl, fun j hj => ?_⟩
      · have e2 : (dl (wab (PD.int .u8) (wbY str)))[i] = .d (.int .u8 (wbY str)[i]) := by simp [dl, wab]
        rw [e2]; exact .d (.int _ _)
      · have hj0 : j = 0 := by omega
        subst hj0
        refine ⟨?_, rfl⟩
        rw [← wo1, hrk]
        simp [hi', Value.cells])
    exact waI (hop _ _ hrun) (hnx _ _ _ φ' hK (h1.put hd h2))
theorem wpQ {e : TypeId} (hc : P.cellsOf e ≠ 0) (count : Nat) (hn : 1 ≤ count) : liesAt P P.depth e count 0 e 1 = true := by
 have hd : P.depth = (2 * (P.types.size + Made.depth) + 1) + 1 := rfl
 rw [hd]
 simp only [liesAt, Bool.or_eq_true]
 left
 rw [hd]
 simp [rowAt, hc, hn, sameLayout]
theorem OpT.neqSame {t t' te : TypeId} {x y : Operand} {r i off : Nat} {j : TypeInfo} (ho : o.op = .binOp .neq t x y t') (ht : P.underlying t = some (.pointer te)) (hj : P.info? te = some j) (hx : σ.eval x = .ptr r i off) (hy : σ.eval y = .ptr r i off) (hd : wan N o.dst)
  (hK : K (σ.put o.dst (.d (.bool false)))) : OpT P G ro N o σ K := by
 intro B hro a w φ hr next Q hnx
 have hv := hr.eval x
 rw [hx] at hv
 have hv2 := hr.eval y
 rw [hy] at hv2
 obtain ⟨ad, h1, h2⟩ : ∃ ad, a.eval x = .pointer (some ad) ∧ a.eval y = .pointer (some ad) := by
  generalize a.eval x = vx at hv
  generalize a.eval y = vy at hv2
  cases hv with | ptr h1 hb h2 =>
  cases hv2 with | ptr h3 hb2 h4 =>
  rw [h1] at h3; cases h3
  rw [hb] at hb2; cases hb2
  exact ⟨_, rfl, rfl⟩
 have hg : (eqGuard .neq t x y (a.eval x) (a.eval y)).run P w = .ok () w := wfu (.inl (by rw [h1]; simp)) (.inl (by rw [h1]; simp))
 have hop : (o.semAt ro a.eval).run P w = .ok (.value (.bool false)) w := by
  rw [Oper.semAt_eq _ _ _ (fun c hc => by rw [ho] at hc; cases hc)]
  simp only [execOp, ho]
  refine wbz ?_
  rw [Sem.run_bind, hg]
  simp only [Result.andThen]
  rw [h1, h2]
  exact run_neq_ptr_same w ad ht hj
 exact waI hop (hnx _ _ _ φ hK (hr.put hd (.d (.bool false))))
theorem wnR {B : Base P} {a : Act} {w : World} {φ : Nm} (hr : Rep G B N σ a w φ) {v : Value} {r : Nat} {row : Row} (hx : waa σ.heap r = some row) (h0 : 0 < row.els.length) (hv : RepV w B.X φ σ.heap v (.ptr r 0 0)) :
  ∃ b n, v = .pointer (some ⟨b, 0, none⟩) ∧ 1 ≤ n ∧ 1 ≤ row.k ∧ w.shape? b = some (row.e, n * row.k) := by
 cases hv with | ptr h1 hb h2 =>
 rename_i b x
 rw [hx] at h1; cases h1
 obtain ⟨c, C, z, h3, h4, _⟩ := (hr.heap.rows r row b hx hb).here h2
 exact ⟨b, C, by simp, by omega, h2, by simp [World.shape?, h3, h4.1]⟩
theorem OpT.toUnsafe {src dst t : TypeId} {x : Operand} {r : Nat} {row : Row} {j : TypeInfo} (ho : o.op = .convert src dst x) (hs : P.underlying src = some (.pointer t)) (hd' : P.underlying dst = some .unsafePointer) (hj : P.info? t = some j) (hj0 : j.size ≠ 0) (hx : σ.eval x = .ptr r 0 0) (hrow : waa σ.heap r = some row)
  (h0 : 0 < row.els.length) (hd : wan N o.dst) (hK : K (σ.put o.dst (.ptr r 0 0))) : OpT P G ro N o σ K := by
 intro B hro a w φ hr next Q hnx
 have hv := hr.eval x
 rw [hx] at hv
 obtain ⟨b, n, h1, h2, h3, h4⟩ := wnR hr hrow h0 hv
 have hop : (o.semAt ro a.eval).run P w = .ok (.value (a.eval x)) w := by
  rw [Oper.semAt_eq _ _ _ (fun c hc => by rw [ho] at hc; cases hc)]
  simp only [execOp, ho]
  refine wbz ?_
  rw [h1]
  exact run_to_unsafe w ⟨b, 0, none⟩ hs hd' hj hj0 h4 (Nat.mul_pos (by omega) (by omega))
 exact waI hop (hnx _ _ _ φ hK (hr.put hd hv))
theorem OpT.fromUnsafe {src dst u : TypeId} {x : Operand} {r : Nat} {row : Row} {j : TypeInfo} (ho : o.op = .convert src dst x) (hs : P.underlying src = some .unsafePointer) (hd' : P.underlying dst = some (.pointer u)) (hj : P.info? u = some j) (hx : σ.eval x = .ptr r 0 0) (hrow : waa σ.heap r = some row)
  (h0 : 0 < row.els.length) (hre : row.e = u) (hrk : row.k = P.cellsOf u) (hd : wan N o.dst) (hK : K (σ.put o.dst (.ptr r 0 0))) : OpT P G ro N o σ K := by
 intro B hro a w φ hr next Q hnx
 have hv := hr.eval x
 rw [hx] at hv
 obtain ⟨b, n, h1, h2, h3, h4⟩ := wnR hr hrow h0 hv
 have hop : (o.semAt ro a.eval).run P w = .ok (.value (a.eval x)) w := by
  rw [Oper.semAt_eq _ _ _ (fun c hc => by rw [ho] at hc; cases hc)]
  simp only [execOp, ho]
  refine wbz ?_
  rw [h1]
  refine run_from_unsafe w ⟨b, 0, none⟩ hs hd' hj h4 ?_
  rw [hre, hrk, Nat.mul_div_cancel _ (by omega)]
  exact wpQ (by omega) n h2
 exact waI hop (hnx _ _ _ φ hK (hr.put hd hv))
theorem OpT.noEscape {c : Call} {f : FuncId} {x : Operand} (ho : o.op = .call c) (hc : c.callee = .value (.func f)) (hca : c.args = #[x])
  (hrun : ∀ (w : World) (v : Value), (callFunc f #[v]).run P w = .ok (.value v) w) (hd : wan N o.dst) (hK : K (σ.put o.dst (σ.eval x))) : OpT P G ro N o σ K := by
 intro B hro a w φ hr next Q hnx
 have hop : (o.semAt ro a.eval).run P w = .ok (.value (a.eval x)) w := by
  rw [Oper.semAt_eq _ _ _ (fun c hc => by rw [ho] at hc; cases hc)]
  simp only [execOp, ho, hc, hca, resolve, invoke]
  simp [hrun, Act.eval, Deferred.ofValue]
 exact waI hop (hnx _ _ _ φ hK (hr.put hd (hr.eval x)))
theorem OpT.sliceData {c : Call} {x : Operand} {r n : Nat} (ho : o.op = .call c) (hc : c.callee = .builtin .unsafeSliceData) (hca : c.args = #[x]) (hx : σ.eval x = .slc r 0 n) (hn : n ≠ 0) (hd : wan N o.dst) (hK : K (σ.put o.dst (.ptr r 0 0))) : OpT P G ro N o σ K := by
 intro B hro a w φ hr next Q hnx
 have hv := hr.eval x
 rw [hx] at hv
 rcases wcM hv with ⟨_, _, h4, _⟩ | ⟨x2, b, cap, h3, hx2, hb, hle, hcp, hl, hzz⟩
 ·exact absurd h4 hn
 ·have hpos := wc5 hv hx2
  have hop : (o.semAt ro a.eval).run P w = .ok (.value (.pointer (some ⟨b, 0 * x2.k + 0, none⟩))) w := by
   rw [Oper.semAt_eq _ _ _ (fun c hc => by rw [ho] at hc; cases hc)]
   simp only [execOp, ho, hc, hca, resolve, invoke, builtin, Sem.run_bind, Sem.run_pure, Result.andThen_ok, List.map_toArray, List.map_cons, List.map_nil, h3, run_unsafeSliceData_row (P := P) w _ _ _ n cap (by omega), Nat.add_zero]
  exact waI hop (hnx _ _ _ φ hK (hr.put hd (.ptr hx2 hb hpos)))
theorem OpT.mkStr {c : Call} {x y : Operand} {pt it e r : Nat} {s : ByteArray} (ho : o.op = .call c) (hc : c.callee = .builtin .unsafeString) (hca : c.args = #[x, y]) (hct : c.argTypes = #[pt, it]) (hpt : P.underlying pt = some (.pointer e)) (hce : P.cellsOf e = 1)
  (hx : σ.eval x = .ptr r 0 0) (hy : σ.eval y = .d (.int .i64 s.size)) (hrow : waa σ.heap r = some ⟨e, 1, dl (wab (PD.int .u8) (wbY s))⟩) (hs0 : s.size ≠ 0) (hd : wan N o.dst) (hK : K (σ.put o.dst (.d (.str s)))) : OpT P G ro N o σ K := by
 intro B hro a w φ hr next Q hnx
 have hv := hr.eval x
 rw [hx] at hv
 have hyv := hr.eval y
 rw [hy] at hyv
 have hyv := wbr hyv
 generalize hav : a.eval x = av at hv
 cases hv with | ptr h1 hb h2 =>
 rename_i b x2
 rw [hrow] at h1; cases h1
 obtain ⟨cs, C, z, h3, h4, h5, h6⟩ := (hr.heap.rows r _ b hrow hb).here h2
 have hll : (dl (wab (PD.int .u8) (wbY s))).length = s.size := by simp [dl, wab, wek]
 have hsl : s.data.toList.length = s.size := by simp
 dsimp only at h3 h4 h5 h6
 rw [hll] at h4
 have hcs : cs.size = C := by rw [h4.1, Nat.mul_one]
 have hcell : ∀ j x, s.data.toList[j]? = some x → w.cell? ((⟨b, 0, none⟩ : Addr).add j) = some (.int .u8 x.toNat) := fun j x hj => by
  obtain ⟨hj', hjx⟩ := List.getElem?_eq_some_iff.1 hj
  obtain ⟨v, g1, g2, g3⟩ := h5 j (by rw [hll, ← hsl]; exact hj')
  have e1 : (dl (wab (PD.int .u8) (wbY s)))[j]'(by rw [hll, ← hsl]; exact hj') = .d (.int .u8 (x.toNat : Int)) := by simp [dl, wab, wbY, ← hjx]
  rw [e1] at g1
  have e2 := wbr g1
  subst e2
  rw [wbX, Nat.zero_add, cell_of_row w b j cs e (0, z) h3]
  have := (g3 0 Nat.one_pos).1
  simpa [Value.cells] using this
 have hrun := run_unsafeString_row (P := P) w pt it o.type e hpt hce b cs.size (by simp [World.shape?, h3]) s.data.toList (fun h => hs0 (by rw [← hsl, h]; rfl)) (by rw [hsl, hcs]; exact h4.2.1) (by rw [hsl]; have := h4.2.1; have := h4.2.2; unfold maxLen at this; omega) hcell
 rw [hsl] at hrun
 have hop : (o.semAt ro a.eval).run P w = .ok (.value (.string s)) (w.freeze ⟨b, 0, none⟩ s.size) := by
  rw [Oper.semAt_eq _ _ _ (fun c hc => by rw [ho] at hc; cases hc)]
  have e3 : (⟨s.data.toList.toArray⟩ : ByteArray) = s := by cases s; simp
  rw [e3] at hrun
  have e4 : (⟨b, 0 * 1 + 0, none⟩ : Addr) = ⟨b, 0, none⟩ := rfl
  simp only [execOp, ho, hc, hca, hct, resolve, invoke, builtin, Sem.run_bind, Sem.run_pure, Result.andThen_ok, List.map_toArray, List.map_cons, List.map_nil, hav, hyv, e4, hrun]
 have hw' : (w.freeze ⟨b, 0, none⟩ s.size).heap[b]? = some (.cells cs e (0, s.size)) := by
  have hz : z ≤ s.size := by have := h6.le; rw [hll] at this; exact this
  simp only [World.freeze, hs0, if_false, Array.getElem?_modify, if_true, h3, Option.map_some, Option.some.injEq, Obj.cells.injEq, true_and]
  by_cases hz0 : z = 0
  ·subst hz0; simp
  ·rw [if_neg (by simpa using Ne.symm hz0)]
   simp; omega
 have hoth : ∀ c, c ≠ b → (w.freeze ⟨b, 0, none⟩ s.size).heap[c]? = w.heap[c]? := fun c hc => by
  simp [World.freeze, hs0, Array.getElem?_modify, Ne.symm hc]
 have hsz : (w.freeze ⟨b, 0, none⟩ s.size).heap.size = w.heap.size := by simp [World.freeze, hs0]
 have hrep := hr.write (w' := w.freeze ⟨b, 0, none⟩ s.size) hrow hb h2 (els := dl (wab (PD.int .u8) (wbY s))) rfl h3 hw' (fun i hi => by
  have hi' : i < (wbY s).length := by rw [wek]; exact hi
  exact ⟨.d (.int .u8 (wbY s)[i]), by simp [dl, wab, hi'], rfl⟩) rfl ⟨by simp [World.freeze, hs0], by simp [World.freeze, hs0], by simp [World.freeze, hs0], by rw [hsz]; exact Nat.le_refl _, fun c _ hc => hoth c hc⟩ hsz h5
 have hself : waj σ.heap r { (⟨e, 1, dl (wab (PD.int .u8) (wbY s))⟩ : Row) with els := dl (wab (PD.int .u8) (wbY s)) } = σ.heap := wiv hrow
 rw [hself] at hrep
 exact waI hop (hnx _ _ _ φ hK (hrep.put hd (.d (.str s))))
variable {xs : Exc}
theorem OpX.sliceData {K : Foot → St → Prop} {c : Call} {x : Operand} {r n : Nat} (ho : o.op = .call c) (hc : c.callee = .builtin .unsafeSliceData) (hca : c.args = #[x]) (hx : σ.eval x = .slc r 0 n) (hn : n ≠ 0) (hd : wan N o.dst) (hxe : exE xs (waJ o.dst (.ptr r 0 0)))
  (hK : K (some (waF (waq o.op), waN o.dst)) (σ.put o.dst (.ptr r 0 0))) : OpX P G ro N xs o σ K := by
 refine ⟨some (waF (waq o.op), waN o.dst), σ.put o.dst (.ptr r 0 0), ⟨waJ o.dst (.ptr r 0 0), fun k hk => by rw [wci] at hk; exact hk, hxe, fun σ' hd' hs _ => ?_, wbd _ _ _, St.put_rest _ _ _⟩, hK⟩
 have h1 := wcp (σ := σ) (σ' := σ') (l := waq o.op) fun k hk => hs k hk
 have hmem : x ∈ waq o.op := by rw [ho]; simp [waq, hca]
 exact OpT.sliceData ho hc hca ((h1 x hmem).trans hx) hn hd ⟨by rw [St.put_rest]; exact hd', wbd _ _ _⟩
theorem OpX.mkStr {K : Foot → St → Prop} {c : Call} {x y : Operand} {pt it e r : Nat} {s : ByteArray} (ho : o.op = .call c) (hc : c.callee = .builtin .unsafeString) (hca : c.args = #[x, y]) (hct : c.argTypes = #[pt, it]) (hpt : P.underlying pt = some (.pointer e)) (hce : P.cellsOf e = 1)
  (hx : σ.eval x = .ptr r 0 0) (hy : σ.eval y = .d (.int .i64 s.size)) (hrow : waa σ.heap r = some ⟨e, 1, dl (wab (PD.int .u8) (wbY s))⟩) (hs0 : s.size ≠ 0) (hd : wan N o.dst) (hxe : exE xs (waJ o.dst (.d (.str s))))
  (hK : K (some (.h r :: waF (waq o.op), waN o.dst)) (σ.put o.dst (.d (.str s)))) : OpX P G ro N xs o σ K := by
 refine ⟨some (.h r :: waF (waq o.op), waN o.dst), σ.put o.dst (.d (.str s)), ⟨waJ o.dst (.d (.str s)), fun k hk => by rw [wci] at hk; exact hk, hxe, fun σ' hd' hs _ => ?_, wbd _ _ _, St.put_rest _ _ _⟩, hK⟩
 have h1 := wcp (σ := σ) (σ' := σ') (l := waq o.op) fun k hk => hs k (List.mem_cons_of_mem _ hk)
 have h2 : waa σ'.heap r = waa σ.heap r := by
  have := hs (.h r) (List.mem_cons_self ..)
  simpa only [St.look, Cont.r.injEq] using this
 have hm1 : x ∈ waq o.op := by rw [ho]; simp [waq, hca]
 have hm2 : y ∈ waq o.op := by rw [ho]; simp [waq, hca]
 exact OpT.mkStr ho hc hca hct hpt hce ((h1 x hm1).trans hx) ((h1 y hm2).trans hy) (h2.trans hrow) hs0 hd ⟨by rw [St.put_rest]; exact hd', wbd _ _ _⟩
theorem Sit.more {B : Base P} {w w' : World} {φ : Nm} {H : wac} {g : Gh} (hro : B.ro = none) (hs : Sit G B w φ H g) (hsz : w.heap.size ≤ w'.heap.size) (hold : ∀ b, b < w.heap.size → w'.heap[b]? = w.heap[b]?) (hos : w'.os = w.os) (ht : w'.tape = w.tape) (hout : w'.output = w.output) : Sit G B w' φ H g := by
 have hr : Rep G B 0 ⟨[], H, [], g⟩ { tmps := #[], defers := [] } w φ := by
  refine Rep.of_sit hs rfl (fun t => .any _) ?_
  rw [B.hheld hro]; exact .nil
 exact (hr.world (wjk hsz hold (fun s x c h1 h2 => hr.heap.lt h1 h2)) ⟨hos, ht, hout, hsz, fun c h _ => hold c h⟩ (fun s x c h1 h2 => hold c (hr.heap.lt h1 h2)) (fun c h _ => hold c h)).sit
theorem wri {Hc Hc' : wac} {g : Nat → Nat} {H0 : wac} : ∀ {l : wac}, wfd Hc g H0 l → (∀ r x, waa l r = some x → waa Hc' (g r) = waa Hc (g r)) → (∀ r x, waa l r = some x → waa Hc' (g r) = some (x.ren g) ∧ refsInL H0 x.els)
 | l, h, hs, r, x, hx => ⟨(hs r x hx).trans (we1 h r x hx).1, (we1 h r x hx).2⟩
def we3 (g : Nat → Nat) : wac → List Key
 | [] => []
 | (r, _) :: l => .h (g r) :: we3 g l
theorem wkK {g : Nat → Nat} : ∀ {l : wac} {r : Nat} {x : Row}, waa l r = some x → Key.h (g r) ∈ we3 g l
 | [], r, x, h => by simp [waa] at h
 | (t, y) :: l, r, x, h => by
  simp only [waa] at h
  split at h
  ·rename_i e; subst e; simp [we3]
  ·simp [we3, wkK h]
def wiw : wac → Prop
 | [] => True
 | (r, _) :: l => r < 1000 ∧ wiw l
theorem wfY : ∀ {l : wac}, wiw l → ∀ r x, waa l r = some x → r < 1000
 | [], _, r, x, h => by simp [waa] at h
 | (s, y) :: l, h, r, x, hx => by
  simp only [waa] at hx
  split at hx
  ·rename_i e; subst e; exact h.1
  ·exact wfY h.2 r x hx
def wgY : wac → Prop
 | [] => True
 | (_, x) :: l => cleanL x.els ∧ wgY l
theorem wh3 : ∀ {l : wac}, wgY l → ∀ r x, waa l r = some x → cleanL x.els
 | [], _, r, x, h => by simp [waa] at h
 | (s, y) :: l, h, r, x, hx => by
  simp only [waa] at hx
  split at hx
  ·rename_i e; subst e; cases hx; exact h.1
  ·exact wh3 h.2 r x hx
theorem OpX.callR {K : Foot → St → Prop} {c : Call} {f : FuncId} {xo : Operand} {caps args : List PV} {res : PV} {H : wac} (g : Nat → Nat) (ho : o.op = .call c) (hc : c.callee = .value xo) (hx : wcr (σ.eval xo) = some (f, caps)) (hcal : wa1 P f = true)
  (hf : ObjFn P G f args H res H) (hrow : wfd σ.heap g H H) (hinj : weW g H) (hpin : wiw H) (hcln : wgY H) (ha : ∀ H0, wds H0 H g (war σ c.args.toList ++ caps) args) (hd : wan N o.dst) (hcl : clean res) (hrf : refsIn H res) (hren : res.ren g = res) (hxe : exE xs (waJ o.dst res))
  (hK : K (some (we3 g H ++ waF (xo :: waq o.op), waN o.dst)) (σ.put o.dst res)) : OpX P G ro N xs o σ K := by
 refine ⟨some (we3 g H ++ waF (xo :: waq o.op), waN o.dst), σ.put o.dst res, ⟨waJ o.dst res, fun k hk => by rw [wci] at hk; exact hk, hxe, fun σ' hd' hs _ => ?_, wbd _ _ _, St.put_rest _ _ _⟩, hK⟩
 have h1 := wcp (σ := σ) (σ' := σ') (l := xo :: waq o.op) fun k hk => hs k (List.mem_append_right _ hk)
 rw [ho] at h1
 have hgt : ∀ r x, waa H r = some x → waa σ'.heap (g r) = waa σ.heap (g r) := fun r x hrx => by
  have := hs (.h (g r)) (List.mem_append_left _ (wkK hrx))
  simpa only [St.look, Cont.r.injEq] using this
 have hrow' := wri hrow hgt
 have hi : ∀ r s x y, waa H r = some x → waa H s = some y → g r = g s → r = s := fun r s x y h h' => weX hinj r s x y (waW h) (waW h')
 refine OpT.callU (H := H) (g := g) (gs := []) (caps := caps) (args := args) ho hc (by rw [h1 xo (by simp)]; exact hx) hcal hf ⟨⟨fun r x h => (hrow' r x h).1, hi, fun r x h => (hrow' r x h).2⟩, fun r x h hr => ?_, fun r x _ _ => by simp, fun s hs => by simp at hs, fun s hs => by simp at hs, fun s hs => by simp at hs, fun s hs => by simp at hs, fun s hs => by simp at hs⟩ ?_ hd ?_
 ·have := wfY hpin r x h; omega
 ·rw [wbO (l := c.args.toList) fun x hx => h1 x (by simp [waq, hx])]; exact ha _
 ·rintro p H' ⟨rfl, rfl⟩
  refine ⟨g, ⟨fun r x' h _ => ⟨x', h, rfl, rfl, fun _ => rfl⟩, fun r x h _ => ⟨x, h⟩, fun r x' h hr => ?_, hi, fun r x h => ⟨(hrow' r x h).2, wh3 hcln r x h⟩⟩, hcl, hrf, ?_⟩
  ·have := wfY hpin r x' h; omega
  ·rw [hren]
   have hm := BackU.merged (σ := σ') (H := H') (H' := H') (g := g) (ρ := g) (gs := []) ⟨fun r x' h _ => ⟨x', h, rfl, rfl, fun _ => rfl⟩, fun r x h _ => ⟨x, h⟩, fun r x' h hr => (by have := wfY hpin r x' h; omega), hi, fun r x h => ⟨(hrow' r x h).2, wh3 hcln r x h⟩⟩
   refine ⟨by rw [St.put_rest]; exact hd', ?_⟩
   rw [← wbd]
   funext k
   cases k with
   | t n => cases hdst : o.dst <;> simp [St.look, St.put]
   | h n =>
    have : waa (wbQ g H' (wbA [] σ'.heap)) n = waa σ'.heap n := by
     by_cases hex : ∃ r x, waa H' r = some x ∧ g r = n
     ·obtain ⟨r, x, h2, rfl⟩ := hex
      rw [hm.inn r x h2, (hrow' r x h2).1]
     ·rw [hm.out n (fun r x h2 h3 => hex ⟨r, x, h2, h3⟩)]; simp
    cases hdst : o.dst <;> simp [St.look, St.put, this]
theorem wsD {f : FuncId} {c : Call} {xo : Operand} {caps args : List PV} {res : PV} {H : wac} {acc : List Foot} {ops : Array Oper} {rest : List Oper} {σ' : St} {Q : St → Prop} (gl : List (Nat × Nat)) (hf : ObjFn P G f args H res H)
  (h2 : DOps P G ro N xs ops Q rest (acc ++ [some (we3 (wax gl) H ++ waF (xo :: waq o.op), waN o.dst)]) σ')
  (hg : o.guard = none := by rfl) (ho : o.op = .call c := by rfl) (hc : c.callee = .value xo := by rfl) (hx : wcr (σ.eval xo) = some (f, caps) := by rfl) (hcal : wa1 P f = true := by kernel_rfl)
  (hrow : wfd σ.heap (wax gl) H H := by (simp only [wfd, Row.ren, go_sem, ↓reduceIte]; (repeat' (first | exact trivial | exact rfl | (simp only [List.length_append, List.length_set, List.length_replicate, List.length_cons, List.length_nil, Nat.zero_add]; exact rfl) | apply And.intro))))
  (hinj : weW (wax gl) H := by (simp only [weW, wgu, go_sem, ↓reduceIte]; (repeat' (first | exact trivial | (intro h; cases h; done) | apply And.intro))))
  (hpin : wiw H := by (repeat' (first | exact trivial | decide | apply And.intro))) (hcln : wgY H := by (simp only [wgY, go_sem, ↓reduceIte]; (repeat' (first | exact trivial | exact rfl | apply And.intro))))
  (ha : ∀ H0, wds H0 H (wax gl) (war σ c.args.toList ++ caps) args := by (intro H0; repeat' (first | exact trivial | exact rfl | apply And.intro | (simp only [go_sem, ↓reduceIte]; done)))) (hd : wan N o.dst := by (simp only [go_sem, ↓reduceIte]; done))
  (hp : σ.put o.dst res = σ' := by (simp only [go_sem, ↓reduceIte]; rfl)) (hcl : clean res := by (simp only [clean, cleanL, and_self]; done)) (hrf : refsIn H res := by (simp only [go_sem]; done)) (hren : res.ren (wax gl) = res := by rfl) (hxe : exE xs (waJ o.dst res) := by (simp only [go_sem, or_true, true_or, ↓reduceIte]; done)) :
  DOps P G ro N xs ops Q (o :: rest) acc σ := by
 obtain ⟨f1, σ1, h3, h4, h5⟩ := OpX.callR (K := fun f1 σ1 => f1 = some (we3 (wax gl) H ++ waF (xo :: waq o.op), waN o.dst) ∧ σ1 = σ') (wax gl) ho hc hx hcal hf hrow hinj hpin hcln ha hd hcl hrf hren hxe ⟨rfl, hp⟩
 rw [h4, h5] at h3
 exact .step (DStep.plain hg h3) h2
end
attribute [go_sem] we3 wgY
def ofI (l : List Int) : ByteArray := ⟨(l.map fun n => n.toNat.toUInt8).toArray⟩
def wo2 (l : List Int) : Bool := l.all fun n => decide (0 ≤ n) && decide (n < 256)
theorem wqH {l : List Int} (h : wo2 l = true) : wbY (ofI l) = l := by
 simp only [wo2, List.all_eq_true, Bool.and_eq_true, decide_eq_true_eq] at h
 simp only [wbY, ofI, List.map_map]
 conv => rhs; rw [← List.map_id l]
 refine List.map_congr_left fun n hn => ?_
 obtain ⟨h1, h2⟩ := h n hn
 simp only [Function.comp, id_eq]
 have : n.toNat.toUInt8.toNat = n.toNat := by simp [Nat.mod_eq_of_lt (show n.toNat < 256 by omega)]
 rw [this]; omega
theorem wo3 (l : List Int) : (ofI l).size = l.length := by simp [ofI, ByteArray.size]
end Go.Pv

