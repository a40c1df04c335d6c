/- PostStamps answers true for every input, and its arguments read as they did: as its row says (Rows), under the conditions of the row, no more. Part 3 of 8: by one AI agent and its programs; no person has read it. -/
import Derived.Test.YtfdnbokgakjplaaPostStampsA
import Derived.Test.YtfdnbokgakjplaaPostStampsB
import Derived.Laws.StructEq
import Derived.ChangeKeysEq
import Derived.Lib.MinMax
import Derived.Sort.Grow
import Derived.Lib.SlicesCompact
import Derived.WideKeyRuns
import Derived.MapKept
import Derived.Lib.Builder
import Derived.Lib.UnsafeStr
import Derived.Lib.AppendStr
import Derived.Lib.FrozenHead
import Derived.Laws.Externs
set_option linter.unusedSimpArgs false
set_option linter.unusedVariables false
set_option linter.all false

namespace Go.Pv
theorem bind_some {α β : Type} {x : Option α} {f : α → Option β} {r : β} (h : x.bind f = some r) : ∃ y, x = some y ∧ f y = some r := by
  cases x with
  | none => cases h
  | some y => exact ⟨y, rfl, h⟩
def idx {α : Type} (l : List α) (i : Int) : Option α := if 0 ≤ i then l[i.toNat]? else none
theorem idx_some {α : Type} {l : List α} {i : Int} {x : α} (h : idx l i = some x) : 0 ≤ i ∧ i < l.length ∧ l[i.toNat]? = some x ∧ i.toNat < l.length := by
  unfold idx at h
  split at h
  · rename_i hi
    obtain ⟨h1, _⟩ := List.getElem?_eq_some_iff.1 h
    exact ⟨hi, by omega, h, h1⟩
  · cases h
theorem idx_nat {α : Type} (l : List α) (i : Nat) : idx l (i : Int) = l[i]? := by
  unfold idx; rw [if_pos (by omega)]; rfl
theorem idx_pos {α : Type} {l : List α} {i : Int} (h : 0 ≤ i) : idx l i = l[i.toNat]? := if_pos h
def iterN {S X : Type} (f : S → Option (S ⊕ X)) : Nat → S → Option X
  | 0, _ => none
  | n + 1, s => (f s).bind fun o => match o with
    | .inl s' => iterN f n s'
    | .inr x => some x
theorem iterN_succ {S X : Type} (f : S → Option (S ⊕ X)) (n : Nat) (s : S) : iterN f (n + 1) s = (f s).bind fun o => match o with
    | .inl s' => iterN f n s'
    | .inr x => some x := rfl
theorem iterN_mono {S X : Type} {f : S → Option (S ⊕ X)} : ∀ {n m : Nat} {s : S} {x : X}, n ≤ m → iterN f n s = some x → iterN f m s = some x
  | 0, _, _, _, _, h => by cases h
  | n + 1, 0, _, _, h, _ => by omega
  | n + 1, m + 1, s, x, h, h' => by
    rw [iterN_succ] at h' ⊢
    obtain ⟨o, h1, h2⟩ := bind_some h'
    rw [h1]
    cases o with
    | inl s' => exact iterN_mono (n := n) (m := m) (by omega) h2
    | inr y => exact h2
open Classical in
noncomputable def iter {S X : Type} (f : S → Option (S ⊕ X)) (s : S) : Option X :=
  if h : ∃ x n, iterN f n s = some x then some (Classical.choose h) else none
theorem iter_some {S X : Type} {f : S → Option (S ⊕ X)} {s : S} {x : X} (h : iter f s = some x) : ∃ n, iterN f n s = some x := by
  unfold iter at h
  split at h
  · rename_i hx
    obtain ⟨n, hn⟩ := Classical.choose_spec hx
    cases h
    exact ⟨n, hn⟩
  · cases h
theorem iter_of {S X : Type} {f : S → Option (S ⊕ X)} {s : S} {x : X} {n : Nat} (h : iterN f n s = some x) : iter f s = some x := by
  have hx : ∃ x n, iterN f n s = some x := ⟨x, n, h⟩
  unfold iter
  rw [dif_pos hx]
  obtain ⟨m, hm⟩ := Classical.choose_spec hx
  have h1 := iterN_mono (Nat.le_max_left n m) h
  have h2 := iterN_mono (Nat.le_max_right n m) hm
  rw [h1] at h2
  exact h2.symm
theorem iter_step {S X : Type} {f : S → Option (S ⊕ X)} {s s' : S} {x : X} (h : f s = some (.inl s')) (h' : iter f s' = some x) : iter f s = some x := by
  obtain ⟨n, hn⟩ := iter_some h'
  exact iter_of (n := n + 1) (by rw [iterN_succ, h]; exact hn)
theorem iter_done {S X : Type} {f : S → Option (S ⊕ X)} {s : S} {x : X} (h : f s = some (.inr x)) : iter f s = some x :=
  iter_of (n := 1) (by rw [iterN_succ, h]; rfl)
def lenc {α : Type} (f : α → PD) (l : List α) : List PD := l.map f
@[go_sem] theorem lenc_length {α : Type} (f : α → PD) (l : List α) : (lenc f l).length = l.length := by simp [lenc]
@[go_sem] theorem lenc_get {α : Type} (f : α → PD) (l : List α) (i : Nat) : (lenc f l)[i]? = (l[i]?).map f := by simp [lenc]
@[go_sem] theorem lenc_drop {α : Type} (f : α → PD) (l : List α) (n : Nat) : (lenc f l).drop n = lenc f (l.drop n) := by simp [lenc, List.map_drop]
@[go_sem] theorem lenc_take {α : Type} (f : α → PD) (l : List α) (n : Nat) : (lenc f l).take n = lenc f (l.take n) := by simp [lenc, List.map_take]
@[go_sem] theorem lenc_app {α : Type} (f : α → PD) (l m : List α) : dl (lenc f l) ++ dl (lenc f m) = dl (lenc f (l ++ m)) := by simp [dl, lenc]
theorem dl_set_eq {α : Type} {f : α → PD} {L : List α} {i : Nat} {x : PD} {y : α} (h : x = f y) : dl ((lenc f L).set i x) = dl (lenc f (L.set i y)) := by subst h; simp only [lenc, List.map_set]
theorem lenc_snoc {α : Type} (f : α → PD) (l : List α) (x : α) : dl (lenc f l) ++ [PV.d (f x)] = dl (lenc f (l ++ [x])) := by simp [dl, lenc]
theorem lenc_set {α : Type} (f : α → PD) (l : List α) (i : Nat) (x : α) : (lenc f l).set i (f x) = lenc f (l.set i x) := by simp [lenc, List.map_set]
theorem lenc_rep {α : Type} (f : α → PD) (n : Nat) (x : α) : List.replicate n (f x) = lenc f (List.replicate n x) := by simp [lenc]
theorem lenc_nil {α : Type} (f : α → PD) : lenc f [] = [] := rfl
theorem lenc_cons {α : Type} (f : α → PD) (x : α) (l : List α) : lenc f (x :: l) = f x :: lenc f l := rfl
@[go_sem] theorem lenc_snoc_int (k : IntKind) (l : List Int) (x : Int) : dl (lenc (PD.int k) l) ++ [PV.d (.int k x)] = dl (lenc (PD.int k) (l ++ [x])) := lenc_snoc _ l x
@[go_sem] theorem lenc_set_int (k : IntKind) (l : List Int) (i : Nat) (x : Int) : (lenc (PD.int k) l).set i (.int k x) = lenc (PD.int k) (l.set i x) := lenc_set _ l i x
@[go_sem] theorem lenc_snoc2_int (k : IntKind) (l : List Int) (x y : Int) : dl (lenc (PD.int k) l) ++ [PV.d (.int k x), PV.d (.int k y)] = dl (lenc (PD.int k) (l ++ [x, y])) := by simp [dl, lenc]
@[go_sem] theorem lenc_snoc_bool (l : List Bool) (x : Bool) : dl (lenc PD.bool l) ++ [PV.d (.bool x)] = dl (lenc PD.bool (l ++ [x])) := lenc_snoc _ l x
@[go_sem] theorem lenc_set_bool (l : List Bool) (i : Nat) (x : Bool) : (lenc PD.bool l).set i (.bool x) = lenc PD.bool (l.set i x) := lenc_set _ l i x
@[go_sem] theorem lenc_rep_bool (n : Nat) (x : Bool) : List.replicate n (PD.bool x) = lenc PD.bool (List.replicate n x) := lenc_rep _ n x
@[go_sem] theorem lenc_snoc_str (l : List ByteArray) (x : ByteArray) : dl (lenc PD.str l) ++ [PV.d (.str x)] = dl (lenc PD.str (l ++ [x])) := lenc_snoc _ l x
@[go_sem] theorem lenc_set_str (l : List ByteArray) (i : Nat) (x : ByteArray) : (lenc PD.str l).set i (.str x) = lenc PD.str (l.set i x) := lenc_set _ l i x
@[go_sem] theorem lenc_rep_str (n : Nat) (x : ByteArray) : List.replicate n (PD.str x) = lenc PD.str (List.replicate n x) := lenc_rep _ n x
theorem ints_lenc (l : List Int) : ints l = lenc (PD.int .i64) l := rfl
def slenc {α : Type} (k : Nat) (f : α → PD) (l : List α) : PD := .imm k (lenc f l)
@[go_sem] theorem slenc_eq {α : Type} (k : Nat) (f : α → PD) (l : List α) : slenc k f l = .imm k (lenc f l) := rfl
@[go_sem] theorem lenc_snoc_slc {α : Type} (k : Nat) (f : α → PD) (l : List (List α)) (x : List α) : dl (lenc (slenc k f) l) ++ [PV.d (.imm k (lenc f x))] = dl (lenc (slenc k f) (l ++ [x])) := lenc_snoc _ l x
@[go_sem] theorem lenc_set_slc {α : Type} (k : Nat) (f : α → PD) (l : List (List α)) (i : Nat) (x : List α) : (lenc (slenc k f) l).set i (.imm k (lenc f x)) = lenc (slenc k f) (l.set i x) := lenc_set _ l i x
mutual
def leD : PD → PD → Prop
  | .nilslice, .imm _ [] => True
  | .imm k l, .imm k' m => k = k' ∧ leDL l m
  | .agg l, .agg m => leDL l m
  | x, y => x = y
def leDL : List PD → List PD → Prop
  | [], [] => True
  | x :: l, y :: m => leD x y ∧ leDL l m
  | _, _ => False
end
mutual
theorem leD_refl : ∀ x : PD, leD x x
  | .imm k l => by simp only [leD]; exact ⟨trivial, leDL_refl l⟩
  | .agg l => by simp only [leD]; exact leDL_refl l
  | .bool _ => by simp only [leD]
  | .int _ _ => by simp only [leD]
  | .str _ => by simp only [leD]
  | .nilptr => by simp only [leD]
  | .nilslice => by simp only [leD]
  | .nilmap => by simp only [leD]
  | .nilfunc => by simp only [leD]
  | .niliface => by simp only [leD]
  | .fn _ => by simp only [leD]
  | .iface _ _ => by simp only [leD]
theorem leDL_refl : ∀ l : List PD, leDL l l
  | [] => by simp only [leDL]
  | x :: l => by simp only [leDL]; exact ⟨leD_refl x, leDL_refl l⟩
end
theorem leDL_get : ∀ {l m : List PD}, leDL l m → l.length = m.length ∧ ∀ i (hi : i < l.length) (hi' : i < m.length), leD l[i] m[i]
  | [], [], _ => ⟨rfl, fun i hi => by simp at hi⟩
  | x :: l, y :: m, h => by
    simp only [leDL] at h
    obtain ⟨h1, h2⟩ := leDL_get h.2
    refine ⟨by simp [h1], fun i hi hi' => ?_⟩
    cases i with
    | zero => exact h.1
    | succ i => simpa using h2 i (by simpa using hi) (by simpa using hi')
  | [], _ :: _, h => by simp [leDL] at h
  | _ :: _, [], h => by simp [leDL] at h
theorem RepD.le {w : World} {ok : Nat → Nat → Prop} {v : Value} {x : PD} (h : RepD w ok v x) : ∀ {y : PD}, leD x y → RepD w ok v y := by
  induction h with
  | bool b => intro y h; cases y <;> simp only [leD, reduceCtorEq, PD.bool.injEq] at h; subst h; exact .bool _
  | int k n => intro y h; cases y <;> simp only [leD, reduceCtorEq, PD.int.injEq] at h; obtain ⟨rfl, rfl⟩ := h; exact .int _ _
  | str s => intro y h; cases y <;> simp only [leD, reduceCtorEq, PD.str.injEq] at h; subst h; exact .str _
  | nilptr => intro y h; cases y <;> simp only [leD, reduceCtorEq] at h; exact .nilptr
  | nilslice =>
    intro y h
    cases y with
    | nilslice => exact .nilslice
    | imm k l => cases l with
      | nil => exact .imm0 k
      | cons => simp [leD] at h
    | _ => simp [leD] at h
  | nilmap => intro y h; cases y <;> simp only [leD, reduceCtorEq] at h; exact .nilmap
  | nilfunc => intro y h; cases y <;> simp only [leD, reduceCtorEq] at h; exact .nilfunc
  | niliface => intro y h; cases y <;> simp only [leD, reduceCtorEq] at h; exact .niliface
  | fn f => intro y h; cases y <;> simp only [leD, reduceCtorEq, PD.fn.injEq] at h; subst h; exact .fn _
  | iface t hv ih => intro y h; cases y <;> simp only [leD, reduceCtorEq, PD.iface.injEq] at h; obtain ⟨rfl, rfl⟩ := h; exact .iface _ hv
  | agg hs _ hf ih =>
    intro y h
    cases y with
    | agg m =>
      simp only [leD] at h
      obtain ⟨h1, h2⟩ := leDL_get h
      exact .agg (by rw [hs, h1]) (fun i hi => ih i (h1 ▸ hi) (h2 i (h1 ▸ hi) hi)) (fun i hi => hf i (h1 ▸ hi))
    | _ => simp [leD] at h
  | imm0 k =>
    intro y h
    cases y with
    | imm k' m =>
      simp only [leD] at h
      obtain ⟨rfl, h⟩ := h
      obtain ⟨h1, _⟩ := leDL_get h
      have : m = [] := by simpa using h1.symm
      subst this; exact .imm0 _
    | _ => simp [leD] at h
  | @imm a n cap k els F ha hb hn hcap _ hk hf hc hz ih =>
    intro y h
    cases y with
    | imm k' m =>
      simp only [leD] at h
      obtain ⟨rfl, h⟩ := h
      obtain ⟨h1, h2⟩ := leDL_get h
      exact .imm F (fun hne => ha (fun e => hne (by subst e; simpa using h1.symm))) (fun hne => hb (fun e => hne (by subst e; simpa using h1.symm))) (by rw [hn, h1]) hcap (fun i hi => ih i (h1 ▸ hi) (h2 i (h1 ▸ hi) hi)) (fun i hi => hk i (h1 ▸ hi)) (fun i hi => hf i (h1 ▸ hi)) (fun i hi => hc i (h1 ▸ hi)) (fun i hi => hz i (h1 ▸ hi))
    | _ => simp [leD] at h
mutual
def leV : PV → PV → Prop
  | _, .any => True
  | .d x, .d y => leD x y
  | .b x, .b y => leD x y
  | .d x, .b y => leD x y
  | .tuple l, .tuple m => leVL l m
  | x, y => x = y
def leVL : List PV → List PV → Prop
  | [], [] => True
  | x :: l, y :: m => leV x y ∧ leVL l m
  | _, _ => False
end
theorem leVL_get : ∀ {l m : List PV}, leVL l m → l.length = m.length ∧ ∀ i (hi : i < l.length) (hi' : i < m.length), leV l[i] m[i]
  | [], [], _ => ⟨rfl, fun i hi => by simp at hi⟩
  | x :: l, y :: m, h => by
    simp only [leVL] at h
    obtain ⟨h1, h2⟩ := leVL_get h.2
    refine ⟨by simp [h1], fun i hi hi' => ?_⟩
    cases i with
    | zero => exact h.1
    | succ i => simpa using h2 i (by simpa using hi) (by simpa using hi')
  | [], _ :: _, h => by simp [leVL] at h
  | _ :: _, [], h => by simp [leVL] at h
section
variable {P : Program} {G : List (Nat × PD)} {ro : Option Nat} {N : Nat} {σ τ : St} {w : World} {X : Nat → Nat → Prop} {φ : Nm} {H H' : Heap}
theorem RepV.le {v : Value} {p : PV} (h : RepV w X φ H v p) : ∀ {q : PV}, leV p q → RepV w X φ H v q := by
  induction h with
  | any v => intro q h; cases q <;> simp only [leV, reduceCtorEq] at h; exact .any _
  | d hd => intro q h; cases q <;> simp only [leV, reduceCtorEq] at h <;> first | exact .any _ | exact .d (hd.le h) | exact (RepV.d (hd.le h)).toB
  | b hd => intro q h; cases q <;> simp only [leV, reduceCtorEq] at h <;> first | exact .any _ | exact .b (hd.le h)
  | mp h1 h2 h3 => intro q h; cases q <;> simp only [leV, reduceCtorEq, PV.mp.injEq] at h <;> first | exact .any _ | (subst h; exact .mp h1 h2 h3)
  | ptr h1 h2 h3 => intro q h; cases q <;> simp only [leV, reduceCtorEq, PV.ptr.injEq] at h <;> first | exact .any _ | (obtain ⟨rfl, rfl, rfl⟩ := h; exact .ptr h1 h2 h3)
  | dptr hd hi => intro q h; cases q <;> simp only [leV, reduceCtorEq, PV.dptr.injEq] at h <;> first | exact .any _ | (obtain ⟨rfl, rfl, rfl, rfl⟩ := h; exact .dptr hd hi)
  | bptr hd hi => intro q h; cases q <;> simp only [leV, reduceCtorEq, PV.bptr.injEq] at h <;> first | exact .any _ | (obtain ⟨rfl, rfl, rfl, rfl⟩ := h; exact .bptr hd hi)
  | glob g => intro q h; cases q <;> simp only [leV, reduceCtorEq, PV.glob.injEq] at h <;> first | exact .any _ | (subst h; exact .glob _)
  | val hf => intro q h; cases q <;> simp only [leV, reduceCtorEq, PV.val.injEq] at h <;> first | exact .any _ | (subst h; exact .val hf)
  | slc h1 h2 h7 h3 h4 h5 h6 => intro q h; cases q <;> simp only [leV, reduceCtorEq, PV.slc.injEq] at h <;> first | exact .any _ | (obtain ⟨rfl, rfl, rfl⟩ := h; exact .slc h1 h2 h7 h3 h4 h5 h6)
  | slc0 h1 h2 h7 h3 => intro q h; cases q <;> simp only [leV, reduceCtorEq, PV.slc.injEq] at h <;> first | exact .any _ | (obtain ⟨rfl, rfl, rfl⟩ := h; exact .slc0 h1 h2 h7 h3)
  | func hs hv ih => intro q h; cases q <;> simp only [leV, reduceCtorEq, PV.func.injEq] at h <;> first | exact .any _ | (obtain ⟨rfl, rfl⟩ := h; exact .func hs hv)
  | agg hs hv hf ih => intro q h; cases q <;> simp only [leV, reduceCtorEq, PV.agg.injEq] at h <;> first | exact .any _ | (subst h; exact .agg hs hv hf)
  | tuple hs hv ih =>
    intro q h
    cases q <;> simp only [leV, reduceCtorEq] at h
    · exact .any _
    · obtain ⟨h1, h2⟩ := leVL_get h
      exact .tuple (by rw [hs, h1]) (fun i hi => ih i (h1 ▸ hi) (h2 i (h1 ▸ hi) hi))
theorem PureFn.intro2 {f : FuncId} {fn : Func} {c : Code} {args : List PV} {res : PV} (hf : P.funcs[f]? = some fn) (hb : fn.body = some c) (hN : args.length ≤ fn.ntmps)
    (h : AWp P G none fn.ntmps c ⟨argEnv 0 args, [], [], none⟩ (Fin P G fn fun p H => ∃ u, frzT H p = some u ∧ leV u res)) : PureFn P G f args res := by
  intro B φ vs h0 h1 h2 h3
  refine (Fn.intro hf hb hN h B φ vs h0 h1 h2 h3).mono ?_
  rintro e w' ⟨v, p, H', g', φ', he, ⟨u, hu, hle⟩, hv, hs⟩
  exact ⟨v, res, [], g', φ', he, ⟨rfl, rfl⟩, (frzT_ok hs.heap hv hu).le hle, hs.drop⟩
def gnone (σ : St) (ds : List (Option Tmp)) (j : Nat) : Bool :=
  match ds[j]? with
  | some (some d) => match eget σ.env d with
    | .tuple [] => true
    | _ => false
  | _ => false
def vcOpU (P : Program) (G : List (Nat × PD)) (ro : Option Nat) (N : Nat) (ds : List (Option Tmp)) (o : Oper) (σ : St) (K : St → Prop) : Prop :=
  match o.guard with
  | none => vcStep P G ro N o σ K
  | some (j, want) => match gval σ ds j with
    | some b => (b = want → vcStep P G ro N o σ K) ∧ (b ≠ want → dstOk N o.dst ∧ K (σ.put o.dst (.tuple [])))
    | none => gnone σ ds j = true ∧ dstOk N o.dst ∧ K (σ.put o.dst (.tuple []))
variable {o : Oper} {K : St → Prop} {ops : Array Oper}
theorem repV_undef : RepV w X φ H undef (.tuple []) := .tuple rfl (fun i hi => by simp at hi)
theorem repV_tuple0 {v : Value} (h : RepV w X φ H v (.tuple [])) : v = undef := by
  cases h with
  | tuple hs =>
    have := Array.eq_empty_of_size_eq_zero (by simpa using hs)
    rw [this]; rfl
theorem Oper.wpIn_off {F : Fence} {n : Nat} {P : Program} {o : Oper} {a : Act} {w : World} {K K' : Act → World → Prop} {Q Q' : Exit → Act → World → Prop} (h : ∀ a w, K a w → K' a w) (hq : ∀ e a w, e ≠ .normal → Q e a w → Q' e a w)
    (hh : o.wpIn F n P a w K Q) : o.wpIn F n P a w K' Q' := by
  refine ⟨hh.1, ?_⟩
  have hh := hh.2
  generalize (o.semAt F.round a.eval).run P w = r at *
  cases r with
  | ok x w' =>
    cases x <;> simp only [Oper.uponIn] at hh ⊢ <;>
      first
        | exact h _ _ hh
        | exact ⟨hh.1, CallsIn.mono hh.2 (fun e w'' he => by cases e <;> first | exact h _ _ he | exact hq _ _ _ (by simp) he | (obtain ⟨a, w, he⟩ := he; exact ⟨a, w, hq _ _ _ (by simp) he⟩))⟩
        | exact ⟨hh.1, RowsIn.mono hh.2 (fun _ _ he => h _ _ he)⟩
        | exact ⟨hh.1, RoundIn.mono hh.2 (fun e w'' he => by cases e <;> first | exact h _ _ he | exact hq _ _ _ (by simp) he | (obtain ⟨a, w, he⟩ := he; exact ⟨a, w, hq _ _ _ (by simp) he⟩))⟩
  | halt x w' => cases x <;> simp only [Oper.uponIn] at hh ⊢ <;> first | exact hh | exact hq _ _ _ (by simp) hh
theorem gnone_ok {B : Base P} {a : Act} (hr : Rep G B N σ a w φ) {j : Nat} (h : gnone σ (dsts ops) j = true) (want : Bool) : (yielded ops a.tmps j == some want) = false := by
  unfold gnone at h
  split at h <;> try (simp at h; done)
  rename_i d hds
  have hod : ∃ o, ops[j]? = some o ∧ o.dst = some d := by
    simp only [dsts, List.getElem?_map, Option.map_eq_some_iff] at hds
    obtain ⟨o, h1, h2⟩ := hds
    exact ⟨o, by simpa using h1, h2⟩
  obtain ⟨o, ho, hd⟩ := hod
  split at h <;> try (simp at h; done)
  rename_i hb
  have hv := hr.env d
  rw [hb] at hv
  have hv := repV_tuple0 hv
  have hy : yielded ops a.tmps j = none := by
    unfold yielded
    rw [ho]
    simp only [Option.bind_some, hd]
    rcases Nat.lt_or_ge d a.tmps.size with h | h
    · rw [Array.getElem?_eq_getElem h]
      have : a.tmps[d] = undef := by simpa [Array.getD, h] using hv
      rw [this]; rfl
    · rw [Array.getElem?_eq_none h]
  rw [hy]; rfl
theorem AOps.skip {rest : List Oper} {Q : St → Prop} {j : Nat} {want : Bool} (hg : o.guard = some (j, want)) (hn : gnone σ (dsts ops) j = true) (hd : dstOk N o.dst) (h : AOps P G ro N ops rest (σ.put o.dst (.tuple [])) Q) :
    AOps P G ro N ops (o :: rest) σ Q := by
  intro B hro a w φ hr Q' hq
  have hy := gnone_ok hr hn want
  simp only [wpL, Region.wanted, hg, hy, Bool.false_eq_true, if_false]
  exact ⟨fun _ _ => trivial, h B hro _ w φ (hr.put hd repV_undef) Q' hq⟩
theorem AOps.guardedU {o : Oper} {rest : List Oper} {Q : St → Prop} {j : Nat} {want b : Bool} (hg : o.guard = some (j, want)) (hb : gval σ (dsts ops) j = some b)
    (h1 : b = want → OpT P G ro N o σ (fun σ' => AOps P G ro N ops rest σ' Q)) (hd : dstOk N o.dst) (h2 : b ≠ want → AOps P G ro N ops rest (σ.put o.dst (.tuple [])) Q) : AOps P G ro N ops (o :: rest) σ Q := by
  intro B hro a w φ hr Q' hq
  have hy := gval_ok hr hb
  by_cases h : b = want
  · simp only [wpL, Region.wanted, hg, hy, h, beq_self_eq_true, if_true]
    exact h1 h B hro a w φ hr _ _ fun σ' a' w' φ' h1 h2 => h1 B hro a' w' φ' h2 Q' hq
  · have : (some b == some want) = false := by simp [h]
    simp only [wpL, Region.wanted, hg, hy, this, Bool.false_eq_true, if_false]
    exact ⟨fun _ _ => trivial, h2 h B hro _ w φ (hr.put hd repV_undef) Q' hq⟩
theorem AOps.consU {rest : List Oper} {Q : St → Prop} (h : ∀ K : St → Prop, (∀ σ, AOps P G ro N ops rest σ Q → K σ) → vcOpU P G ro N (dsts ops) o σ K) : AOps P G ro N ops (o :: rest) σ Q := by
  have h := h _ (fun _ h => h)
  unfold vcOpU at h
  split at h
  · rename_i hg; exact AOps.step hg (OpT.vc h)
  · rename_i j want hg
    split at h
    · rename_i b hb
      by_cases hbw : b = want
      · exact AOps.guardedU hg hb (fun hb => OpT.vc (h.1 hb)) (h.1 hbw).1 (fun hb => (h.2 hb).2)
      · exact AOps.guardedU hg hb (fun hb => OpT.vc (h.1 hb)) (h.2 hbw).1 (fun hb => (h.2 hb).2)
    · exact AOps.skip hg h.1 h.2.1 h.2.2
theorem AOps.cut {l : List Oper} {Q : St → Prop} (n : Nat) (τ : St) (h1 : AOps P G ro N ops (l.take n) σ (fun σ' => Sub G N σ' τ)) (h2 : AOps P G ro N ops (l.drop n) τ Q) : AOps P G ro N ops l σ Q := by
  have key : ∀ (l m : List Oper) (Q' : Exit → Act → World → Prop) (a : Act) (w : World), wpL (Fw ro) 0 P ops (fun e a w => match e with | .normal => wpL (Fw ro) 0 P ops Q' m a w | e => Q' e a w) l a w → wpL (Fw ro) 0 P ops Q' (l ++ m) a w := by
    intro l
    induction l with
    | nil => intro m Q' a w h; exact h
    | cons o l ih =>
      intro m Q' a w h
      simp only [List.cons_append, wpL] at h ⊢
      split at h
      · rename_i hw
        rw [if_pos hw]
        exact Oper.wpIn_off (fun a w h => ih m Q' a w h) (fun e a w hne h => by
          cases e <;> first | exact absurd rfl hne | exact h) h
      · rename_i hw
        rw [if_neg hw]
        exact ⟨h.1, ih m Q' _ w h.2⟩
  intro B hro a w φ hr Q' hq
  rw [← List.take_append_drop n l]
  refine key _ _ _ _ _ (h1 B hro a w φ hr _ fun σ' a' w' φ' hs hr' => ?_)
  obtain ⟨φ'', hr''⟩ := hs P B a' w' φ' hr'
  exact h2 B hro a' w' φ'' hr'' Q' hq
mutual
theorem leV_refl : ∀ p : PV, leV p p
  | .any => by simp only [leV]
  | .d x => by simp only [leV]; exact leD_refl x
  | .b x => by simp only [leV]; exact leD_refl x
  | .ptr .. => by simp only [leV]
  | .dptr .. => by simp only [leV]
  | .bptr .. => by simp only [leV]
  | .glob _ => by simp only [leV]
  | .val _ => by simp only [leV]
  | .slc .. => by simp only [leV]
  | .mp _ => by simp only [leV]
  | .func .. => by simp only [leV]
  | .agg _ => by simp only [leV]
  | .tuple l => by
    simp only [leV]; exact leVL_refl l
theorem leVL_refl : ∀ l : List PV, leVL l l
  | [] => by simp only [leVL]
  | p :: l => by simp only [leVL]; exact ⟨leV_refl p, leVL_refl l⟩
end
end
attribute [go_sem] vcOpU gnone ints_lenc cond_true cond_false decide_true decide_false Bool.not_true Bool.not_false Bool.or_true Bool.or_false Bool.true_or Bool.false_or Bool.and_true Bool.and_false Bool.true_and Bool.false_and Nat.zero_add Nat.add_zero Nat.zero_le true_and and_true and_self ne_eq not_false_eq_true not_true_eq_false Bool.false_eq_true false_implies true_implies forall_const
  List.length_cons List.length_nil List.toList_toArray List.getElem?_cons_zero List.getElem?_cons_succ List.set_cons_zero List.set_cons_succ List.map_cons List.map_nil List.drop_zero List.drop_succ_cons List.take_succ_cons List.take_zero List.lookup_cons List.append_nil List.nil_append List.cons_append Option.map_some Option.map_none Option.getD_some Option.getD_none Option.bind_some Option.some.injEq Option.isSome_some Option.isSome_none
end Go.Pv

namespace Go.Pv
section
variable {P : Program} {G : List (Nat × PD)} {ro : Option Nat} {N : Nat} {σ τ : St} {w w' : World} {X : Nat → Nat → Prop} {φ φ' : Nm} {H H' : Heap} {o : Oper} {K : St → Prop} {ops : Array Oper} {B : Base P} {a a' : Act}
mutual
theorem refsIn_of : ∀ {p : PV}, (∀ r ∈ rowsOf p, (hget H r).isSome = true) → refsIn H p
  | .ptr r _ _, h => by simp only [refsIn]; exact h r (by simp [rowsOf])
  | .slc r _ _, h => by simp only [refsIn]; exact h r (by simp [rowsOf])
  | .mp r, h => by simp only [refsIn]; exact h r (by simp [rowsOf])
  | .func _ l, h => by simp only [refsIn]; exact refsInL_of (fun r hr => h r (by simpa [rowsOf] using hr))
  | .agg l, h => by simp only [refsIn]; exact refsInL_of (fun r hr => h r (by simpa [rowsOf] using hr))
  | .tuple l, h => by simp only [refsIn]; exact refsInL_of (fun r hr => h r (by simpa [rowsOf] using hr))
  | .any, _ => by simp only [refsIn]
  | .d _, _ => by simp only [refsIn]
  | .b _, _ => by simp only [refsIn]
  | .dptr .., _ => by simp only [refsIn]
  | .bptr .., _ => by simp only [refsIn]
  | .glob _, _ => by simp only [refsIn]
  | .val _, _ => by simp only [refsIn]
theorem refsInL_of : ∀ {l : List PV}, (∀ r ∈ rowsOfL l, (hget H r).isSome = true) → refsInL H l
  | [], _ => by simp only [refsInL]
  | p :: l, h => by
    simp only [refsInL]
    exact ⟨refsIn_of (fun r hr => h r (by simp [rowsOfL, hr])), refsInL_of (fun r hr => h r (by simp [rowsOfL, hr]))⟩
end
theorem rowsOfL_all : ∀ {ps : List PV}, (∀ i (hi : i < ps.length), ∀ r ∈ rowsOf ps[i], (hget H r).isSome = true) → ∀ r ∈ rowsOfL ps, (hget H r).isSome = true := by
  intro ps
  induction ps with
  | nil => intro _ r hr; simp [rowsOfL] at hr
  | cons p l ih =>
    intro h r hr
    simp only [rowsOfL, List.mem_append] at hr
    rcases hr with hr | hr
    · exact h 0 (by simp) r hr
    · exact ih (fun i hi => h (i + 1) (by simpa using hi)) r hr
theorem Rep.refs (hr : Rep G B N σ a w φ) : ∀ s y, hget σ.heap s = some y → refsInL σ.heap y.els := by
  intro s y hy
  refine refsInL_of fun r hrr => ?_
  cases hφ : φ s with
  | none => rw [hr.heap.void s y hy hφ] at hrr; simp [rowsOfL] at hrr
  | some b =>
    exact rowsOfL_all (fun i hi => by obtain ⟨v, h4⟩ := (hr.heap.rows s y b hy hφ).el i hi; exact h4.rows) r hrr
theorem Dfr.refs {m : Nat → Prop} {ds : List Deferred} {ps : List PV} (h : Dfr m w X φ H ds ps) : refsInL H ps := by
  induction h with
  | nil => simp only [refsInL]
  | fn h1 h2 h3 _ ih => simp only [refsInL]; exact ⟨refsIn_of h3.rows, ih⟩
  | mark _ _ _ _ _ ih => exact ih
theorem Rep.forget (hr0 : Rep G B N σ a w φ) {r n : Nat} {row : Row} {dst : Option Tmp} {v : PV} (hr : Rep G B N (({ σ with heap := hput σ.heap r row } : St).put dst (.slc r 0 n)) a' w' φ') (hn : hget σ.heap r = none)
    (hd : dstOk N dst) (hf : frzT (hput σ.heap r row) (.slc r 0 n) = some v) : Rep G B N (σ.put dst v) a' w' φ' := by
  have hle : ∀ s y, hget σ.heap s = some y → hget (hput σ.heap r row) s = some y := fun s y h => by
    rw [hget_hput, if_neg (fun e => by subst e; rw [hn] at h; cases h)]; exact h
  have hheap : ((({ σ with heap := hput σ.heap r row } : St).put dst (.slc r 0 n))).heap = hput σ.heap r row := by cases dst <;> rfl
  have hgh : ((({ σ with heap := hput σ.heap r row } : St).put dst (.slc r 0 n))).gh = σ.gh := by cases dst <;> rfl
  have hdfr : ((({ σ with heap := hput σ.heap r row } : St).put dst (.slc r 0 n))).dfr = σ.dfr := by cases dst <;> rfl
  have hsit := hr.sit
  rw [hheap, hgh] at hsit
  have hs := hsit.less hle hr0.refs
  have hd' := hr.dfr
  rw [hheap, hgh, hdfr] at hd'
  refine Rep.of_sit (by cases dst <;> exact hs) hr.size (fun t => ?_) (by cases dst <;> exact hd'.less hle hr0.dfr.refs)
  have he := hr.env t
  rw [hheap] at he
  have hh2 : (σ.put dst v).heap = σ.heap := by cases dst <;> rfl
  rw [hh2]
  cases dst with
  | none => exact he.less hle (refsIn_of (hr0.env t).rows)
  | some d =>
    simp only [St.put, eget_eput] at he ⊢
    split at he
    · rename_i h; rw [if_pos h]
      exact frzT_in hsit.heap hle he (fun s hs => by simp only [rowsOf, List.mem_singleton] at hs; subst hs; exact hn) hf
    · rename_i h; rw [if_neg h]
      exact he.less hle (refsIn_of (hr0.env t).rows)
def litO (P : Program) (σ : St) (op : Op) : Option PV :=
  match op with
  | .buildSlice t len parts => match sliceElem P t with
    | some (_, z) => if zeroOk z = true ∧ inOrder 0 parts.toList = true ∧ parts.toList.length = len ∧ sizesOk z.size (evalL σ (parts.toList.map (·.2))) = true ∧ len * z.size ≤ 16777216 then
        (allD (evalL σ (parts.toList.map (·.2)))).map fun l => .d (.imm z.size l) else none
    | none => none
  | _ => none
theorem evalL_len (σ : St) : ∀ l : List Operand, (evalL σ l).length = l.length
  | [] => rfl
  | x :: l => by simp [evalL, evalL_len σ l]
theorem OpT.litD {v : PV} (h : litO P σ o.op = some v) (hd : dstOk N o.dst) (hK : K (σ.put o.dst v)) : OpT P G ro N o σ K := by
  unfold litO at h
  split at h <;> try (simp at h; done)
  rename_i t len parts ho
  split at h <;> try (simp at h; done)
  rename_i e z hse
  split at h <;> try (simp at h; done)
  rename_i hc
  obtain ⟨h1, h2, h3, h4, h5⟩ := hc
  simp only [Option.map_eq_some_iff] at h
  obtain ⟨l, hl, rfl⟩ := h
  obtain ⟨y, hy, hde, he⟩ := sliceElem_parts hse
  obtain ⟨zv, h6, h7, h8⟩ := zeroOk_some h1
  intro B hro a w φ hr next Q hn
  refine OpT.buildSlice (K := fun τ => τ = (({ σ with heap := hput σ.heap (fresh σ.heap) { e, k := z.size, els := evalL σ (parts.toList.map (·.2)) } } : St).put o.dst (.slc (fresh σ.heap) 0 len))) ho hy hde he h6 h7 h8 h2 h3 h4 h5 hd (hget_fresh _) (fresh_ge _) rfl B hro a w φ hr next Q ?_
  rintro τ a' w' φ' rfl hr'
  refine hn _ _ _ φ' hK (hr.forget hr' (hget_fresh _) hd ?_)
  have hlen : l.length = len := by
    have := congrArg List.length (allD_some _ _ hl)
    simp only [List.length_map, evalL_len] at this
    rw [← h3]; simpa using this.symm
  simp only [frzT, frz, hget_hput, if_true, hl, Option.map_some, List.drop_zero]
  rw [List.take_of_length_le (by omega)]
def vcStepL (P : Program) (N : Nat) (o : Oper) (σ : St) (K : St → Prop) : Prop :=
  dstOk N o.dst ∧ match litO P σ o.op with
    | some v => K (σ.put o.dst v)
    | none => False
def vcOpL (P : Program) (N : Nat) (ds : List (Option Tmp)) (o : Oper) (σ : St) (K : St → Prop) : Prop :=
  match o.guard with
  | none => vcStepL P N o σ K
  | some (j, want) => match gval σ ds j with
    | some b => (b = want → vcStepL P N o σ K) ∧ (b ≠ want → dstOk N o.dst ∧ K (σ.put o.dst (.tuple [])))
    | none => gnone σ ds j = true ∧ dstOk N o.dst ∧ K (σ.put o.dst (.tuple []))
theorem OpT.vcL (h : vcStepL P N o σ K) : OpT P G ro N o σ K := by
  obtain ⟨hd, h⟩ := h
  split at h
  · rename_i v hv; exact OpT.litD hv hd h
  · exact h.elim
theorem AOps.consL {rest : List Oper} {Q : St → Prop} (h : ∀ K : St → Prop, (∀ σ, AOps P G ro N ops rest σ Q → K σ) → vcOpL P N (dsts ops) o σ K) : AOps P G ro N ops (o :: rest) σ Q := by
  have h := h _ (fun _ h => h)
  unfold vcOpL at h
  split at h
  · rename_i hg; exact AOps.step hg (OpT.vcL h)
  · rename_i j want hg
    split at h
    · rename_i b hb
      by_cases hbw : b = want
      · exact AOps.guardedU hg hb (fun hb => OpT.vcL (h.1 hb)) (h.1 hbw).1 (fun hb => (h.2 hb).2)
      · exact AOps.guardedU hg hb (fun hb => OpT.vcL (h.1 hb)) (h.2 hbw).1 (fun hb => (h.2 hb).2)
    · exact AOps.skip hg h.1 h.2.1 h.2.2
theorem litO_agree {σ' : St} {op : Op} (h : ∀ x ∈ opnds op, σ'.eval x = σ.eval x) : litO P σ' op = litO P σ op := by
  cases op <;> try rfl
  case buildSlice t len parts =>
    simp only [litO]
    rw [evalL_agree (σ := σ) (σ' := σ') (l := parts.toList.map (·.2)) (by simpa [opnds] using h)]
theorem OpD.lit {xs : Exc} {v : PV} (h : litO P σ o.op = some v) (hd : dstOk N o.dst) (hx : exE xs (dstEff o.dst v)) :
    OpD P G ro N xs o σ (some (tmpKeys (opnds o.op), dstKeys o.dst)) (σ.put o.dst v) := by
  refine ⟨dstEff o.dst v, fun k hk => by rw [ekeys_dst] at hk; exact hk, hx, fun σ' hd' hs _ => ?_, look_put _ _ _, St.put_rest _ _ _⟩
  have h1 := eval_agree (σ := σ) (σ' := σ') (l := opnds o.op) fun k hk => hs k hk
  exact OpT.litD (by rw [litO_agree h1]; exact h) hd ⟨by rw [St.put_rest]; exact hd', look_put _ _ _⟩
def dvStepL (P : Program) (N : Nat) (xs : Exc) (o : Oper) (σ : St) (K : Foot → St → Prop) : Prop :=
  dstOk N o.dst ∧ match litO P σ o.op with
  | some v => exE xs (dstEff o.dst v) ∧ K (some (tmpKeys (opnds o.op), dstKeys o.dst)) (σ.put o.dst v)
  | none => False
theorem DOps.consL {xs : Exc} {rest : List Oper} {acc : List Foot} {Q : St → Prop} (hg : o.guard = none) (h : ∀ K : Foot → St → Prop, (∀ f σ1, DOps P G ro N xs ops Q rest (acc ++ [f]) σ1 → K f σ1) → dvStepL P N xs o σ K) :
    DOps P G ro N xs ops Q (o :: rest) acc σ := by
  have h := h (fun f σ1 => DOps P G ro N xs ops Q rest (acc ++ [f]) σ1) (fun _ _ h => h)
  obtain ⟨hd, h⟩ := h
  split at h
  · rename_i v hv
    exact .step (DStep.plain hg (OpD.lit hv hd h.1)) h.2
  · exact h.elim
def heapCv : Heap → Heap → Prop
  | [], _ => True
  | (r, x) :: l, h => (∃ y, hget h r = some y ∧ y.e = x.e ∧ y.k = x.k ∧ leVL y.els x.els ∧ (y.els = x.els ∨ y.els.all (fun p => !isByte p) = true)) ∧ heapCv l h
theorem heapCv_get {g : Heap} : ∀ {l : Heap}, heapCv l g → ∀ r x, hget l r = some x → ∃ y, hget g r = some y ∧ y.e = x.e ∧ y.k = x.k ∧ leVL y.els x.els ∧ (y.els = x.els ∨ y.els.all (fun p => !isByte p) = true)
  | [], _, _, _, h => by simp [hget] at h
  | (s, y) :: l, h, r, x, hx => by
    simp only [hget] at hx
    split at hx
    · rename_i e; subst e; simp only [Option.some.injEq] at hx; subst hx; exact h.1
    · exact heapCv_get h.2 r x hx
def hconv (l : Heap) : Heap → Heap
  | [] => []
  | (r, y) :: g => (r, match hget l r with | some x => { y with els := x.els } | none => y) :: hconv l g
theorem hget_hconv (l : Heap) : ∀ (g : Heap) (r : Nat), hget (hconv l g) r = (hget g r).map fun y => match hget l r with | some x => { y with els := x.els } | none => y
  | [], r => rfl
  | (s, y) :: g, r => by
    simp only [hconv, hget]
    split
    · rename_i e; subst e; rfl
    · exact hget_hconv l g r
theorem Sub.rows (L : Heap) (h : heapCv L σ.heap) : Sub G N σ { σ with heap := hconv L σ.heap } := by
  intro P B a w φ hr
  have hgt : ∀ r y, hget σ.heap r = some y → ∃ x, hget (hconv L σ.heap) r = some x ∧ x.e = y.e ∧ x.k = y.k ∧ x.els.length = y.els.length ∧ leVL y.els x.els ∧ (y.els = x.els ∨ y.els.all (fun p => !isByte p) = true) := fun r y hy => by
    rw [hget_hconv, hy, Option.map_some]
    cases h2 : hget L r with
    | none => exact ⟨y, rfl, rfl, rfl, rfl, leVL_refl _, .inl rfl⟩
    | some x =>
      obtain ⟨y', h3, h4, h5, h6⟩ := heapCv_get h r x h2
      rw [hy] at h3; cases h3
      exact ⟨_, rfl, rfl, rfl, (leVL_get h6.1).1.symm, h6⟩
  have hget' : ∀ r x, hget (hconv L σ.heap) r = some x → ∃ y, hget σ.heap r = some y ∧ y.e = x.e ∧ y.k = x.k ∧ x.els.length = y.els.length ∧ leVL y.els x.els ∧ (y.els = x.els ∨ y.els.all (fun p => !isByte p) = true) := fun r x hx => by
    have hx' := hx
    rw [hget_hconv, Option.map_eq_some_iff] at hx'
    obtain ⟨y, hy, _⟩ := hx'
    obtain ⟨x', h1, h2, h3, h4, h5⟩ := hgt r y hy
    rw [hx] at h1; cases h1
    exact ⟨y, hy, h2.symm, h3.symm, h4, h5⟩
  have hrow : ∀ b, rowB φ (hconv L σ.heap) b ↔ rowB φ σ.heap b := fun b =>
    ⟨fun ⟨r, x, h1, h2⟩ => by obtain ⟨y, h3, _⟩ := hget' r x h1; exact ⟨r, y, h3, h2⟩, fun ⟨r, y, h1, h2⟩ => by obtain ⟨x, h3, _⟩ := hgt r y h1; exact ⟨r, x, h3, h2⟩⟩
  have hown : ∀ b, own φ (hconv L σ.heap) b ↔ own φ σ.heap b := fun b => or_congr (hrow b) Iff.rfl
  have hext : Ext w B.X φ σ.heap w φ (hconv L σ.heap) :=
    ⟨fun r y hy => by obtain ⟨x, h1, h2, h3, h4, _⟩ := hgt r y hy; exact ⟨x, h1, h3, fun _ => h4, rfl⟩, fun b kk hb => ⟨hb.1, hb.2.1, fun ho => hb.2.2 ((hown b).1 ho)⟩, fun b kk hb => ⟨hb.1, fun ho => hb.2 ((hown b).1 ho)⟩, fun _ kk _ => rfl, fun r x b _ _ c e f hh => ⟨c, e, f, hh, rfl⟩⟩
  refine ⟨φ, Rep.of_sit ⟨⟨fun r x b hx hb => ?_, fun r x hx hφ => ?_, fun r s x y b hx hy hb hb' => ?_, fun b hT => ⟨(hr.heap.far b hT).1, (hr.heap.far b hT).2.1, fun ho => (hr.heap.far b hT).2.2 ((hrow b).1 ho)⟩⟩, hr.keeps, fun r x b hx hb => ?_, fun r x hx hp => ?_, fun r x b hx hp hb => ?_, ?_, hr.tnew, ?_⟩ hr.size (fun t => (hr.env t).ext hext) ?_⟩
  · obtain ⟨y, h1, h2, h3, h4, h5⟩ := hget' r x hx
    have hro := (hr.heap.rows r y b h1 hb).ext hext rfl
    exact hro.turn h3.symm h2.symm h4 (fun _ _ h => h) hro.free (fun i hi hi' v hv => hv.le ((leVL_get h5.1).2 i hi hi')) fun z hz => by
      rcases h5.2 with h6 | h6
      · rw [h6] at hz; exact hz
      · have := hz.zero_of fun p hp => by simpa using List.all_eq_true.1 h6 p hp
        subst this; exact .zero _
  · obtain ⟨y, h1, h2, h3, h4, h5⟩ := hget' r x hx
    have := hr.heap.void r y h1 hφ
    rw [this] at h4
    simpa using h4
  · obtain ⟨x', h1, _⟩ := hget' r x hx
    obtain ⟨y', h2, _⟩ := hget' s y hy
    exact hr.heap.inj r s x' y' b h1 h2 hb hb'
  · obtain ⟨y, h1, _⟩ := hget' r x hx
    exact hr.new r y b h1 hb
  · obtain ⟨y, h1, _⟩ := hget' r x hx
    exact hr.pins r y h1 hp
  · obtain ⟨y, h1, _⟩ := hget' r x hx
    exact hr.psz r y b h1 hp hb
  · exact hr.glob.ext hext (fun g y hm => by obtain ⟨_, _, _, _, _, h2, _⟩ := hr.glob g y hm; exact fun ho => h2 ((hown g).1 ho))
  · exact J_step (w := w) (φ := φ) (H := σ.heap) hr.inv rfl rfl rfl rfl (Nat.le_refl _) (fun _ _ _ => rfl) (fun b hb => .inl ((hrow b).1 hb))
  · exact hr.dfr.ext hext
theorem row_refs (H : Heap) (l : List PD) : refsInL H (dl l) := by rw [dl_refs]; trivial
theorem le_nil {α : Type} (k : Nat) (f : α → PD) : leV (.d .nilslice) (.d (.imm k (lenc f []))) := by simp only [leV, leD, lenc_nil]
theorem slcl {r n m : Nat} (h : n = m) : PV.slc r 0 n = .slc r 0 m := by rw [h]
def lstD (k : Nat) (l : List PD) : PD := match l with
  | [] => .nilslice
  | x :: l => .imm k (x :: l)
theorem lstD_le (k : Nat) (l : List PD) : leD (lstD k l) (.imm k l) := by
  cases l with
  | nil => simp only [lstD, leD]
  | cons x l => exact leD_refl _
end
attribute [go_sem] vcOpL vcStepL litO dvStepL dl_cons dl_nil
end Go.Pv

namespace Go.Pv
def partD (P : Program) (t : TypeId) (xs : List PD) (off : Nat) : Option PD :=
  match elemLoad P t (.d (.agg xs)) off with
  | some (.d x) => some x
  | _ => none
def eqFs (P : Program) (E : TypeId → PD → PD → Option Bool) (xs ys : List PD) : List Field → Option Bool
  | [] => some true
  | f :: fs =>
    if (f.name == "_") = true then eqFs P E xs ys fs
    else match partD P f.type xs f.offset, partD P f.type ys f.offset with
      | some a, some b => match E f.type a b, eqFs P E xs ys fs with
        | some r, some q => some (r && q)
        | _, _ => none
      | _, _ => none
def eqIs (P : Program) (E : TypeId → PD → PD → Option Bool) (e : TypeId) (c : Nat) (xs ys : List PD) : List Nat → Option Bool
  | [] => some true
  | i :: is => match partD P e xs (i * c), partD P e ys (i * c) with
    | some a, some b => match E e a b, eqIs P E e c xs ys is with
      | some r, some q => some (r && q)
      | _, _ => none
    | _, _ => none
def eqD (P : Program) : Nat → TypeId → PD → PD → Option Bool
  | 0, _, _, _ => none
  | d + 1, t, x, y => match tyOf P t with
    | none => none
    | some z => match z.desc with
      | .int _ => match x, y with
        | .int k a, .int k' b => if k = k' then some (a == b) else none
        | _, _ => none
      | .bool => match x, y with
        | .bool a, .bool b => some (a == b)
        | _, _ => none
      | .string => match x, y with
        | .str a, .str b => some (a == b)
        | _, _ => none
      | .struct fs => match x, y with
        | .agg xs, .agg ys => if P.stoodInHeld t = false then eqFs P (eqD P d) xs ys fs.toList else none
        | _, _ => none
      | .array n e => match x, y with
        | .agg xs, .agg ys => match tyOf P e with
          | some q => eqIs P (eqD P d) e q.size xs ys (List.range n)
          | none => none
        | _, _ => none
      | _ => none
theorem eqD_s (P : Program) (d : Nat) (t : TypeId) (x y : PD) : eqD P (d + 1) t x y = match tyOf P t with
    | none => none
    | some z => match z.desc with
      | .int _ => match x, y with
        | .int k a, .int k' b => if k = k' then some (a == b) else none
        | _, _ => none
      | .bool => match x, y with
        | .bool a, .bool b => some (a == b)
        | _, _ => none
      | .string => match x, y with
        | .str a, .str b => some (a == b)
        | _, _ => none
      | .struct fs => match x, y with
        | .agg xs, .agg ys => if P.stoodInHeld t = false then eqFs P (eqD P d) xs ys fs.toList else none
        | _, _ => none
      | .array n e => match x, y with
        | .agg xs, .agg ys => match tyOf P e with
          | some q => eqIs P (eqD P d) e q.size xs ys (List.range n)
          | none => none
        | _, _ => none
      | _ => none := rfl
def eqV (P : Program) (t : TypeId) (p q : PV) : Option Bool :=
  match p, q with
  | .d (.agg a), .d (.agg b) => if P.eqGuardType P.depth t = false then eqD P 8 t (.agg a) (.agg b) else none
  | _, _ => none
def maxO (lo : Bool) : List PV → Option PV
  | [.d (.int k a), .d (.int k' b)] => if k = k' then some (.d (.int k (if lo then min a b else max a b))) else none
  | _ => none
def xOp (P : Program) (σ : St) (op : Op) : Option PV :=
  match op with
  | .binOp .eql t x y _ => (eqV P t (σ.eval x) (σ.eval y)).map fun b => .d (.bool b)
  | .binOp .neq t x y _ => (eqV P t (σ.eval x) (σ.eval y)).map fun b => .d (.bool (!b))
  | .call c => match c.callee with
    | .builtin .max => maxO false (evalL σ c.args.toList)
    | .builtin .min => maxO true (evalL σ c.args.toList)
    | _ => none
  | _ => none
section
variable {P : Program} {G : List (Nat × PD)} {ro : Option Nat} {N : Nat} {σ τ : St} {w w' : World} {X : Nat → Nat → Prop} {φ φ' : Nm} {H H' : Heap} {o : Oper} {K : St → Prop} {ops : Array Oper} {B : Base P} {a a' : Act}
theorem partD_ok {t : TypeId} {xs : List PD} {off : Nat} {x : PD} {vs : Array Value} (h : partD P t xs off = some x) (hv : RepV w X φ H (.agg vs) (.d (.agg xs))) :
    ∃ z, (part t vs off).run P w = .ok z w ∧ RepV w X φ H z (.d x) := by
  unfold partD at h
  split at h <;> simp only [Option.some.injEq, reduceCtorEq] at h
  rename_i y hy; subst h
  obtain ⟨vs', z, h1, h2, h3⟩ := elemLoad_part (P := P) rfl hy hv
  cases h1
  exact ⟨z, h2, h3⟩
theorem eqFs_ok {E : TypeId → PD → PD → Option Bool} {n : Nat} (hE : ∀ t x y r, E t x y = some r → ∀ u v, RepV w X φ H u (.d x) → RepV w X φ H v (.d y) → (Op.equalIn n t u v).run P w = .ok r w) {xs ys : List PD} {us vs : Array Value} (hu : RepV w X φ H (.agg us) (.d (.agg xs))) (hv : RepV w X φ H (.agg vs) (.d (.agg ys))) :
    ∀ {fs : List Field} {r : Bool}, eqFs P E xs ys fs = some r → (Op.eqFields n us vs fs).run P w = .ok r w := by
  intro fs
  induction fs with
  | nil =>
    intro r h
    simp only [eqFs, Option.some.injEq] at h
    subst h; rfl
  | cons f fs ih =>
    intro r h
    simp only [eqFs] at h
    split at h
    · rename_i hn
      have hn : f.name = "_" := by simpa using hn
      simp only [Op.eqFields, hn, ne_eq, not_true_eq_false, if_false]
      exact ih h
    · rename_i hn
      have hn : f.name ≠ "_" := by simpa using hn
      split at h <;> try (simp at h; done)
      rename_i p q hp hq
      split at h <;> simp only [Option.some.injEq, reduceCtorEq] at h
      rename_i r1 r2 h1 h2; subst h
      obtain ⟨u, e1, e2⟩ := partD_ok (P := P) hp hu
      obtain ⟨v, e3, e4⟩ := partD_ok (P := P) hq hv
      have e5 := hE _ _ _ _ h1 _ _ e2 e4
      simp only [Op.eqFields, hn, ne_eq, not_false_eq_true, if_true, Sem.run_bind, e1, e3, e5, Result.andThen_ok]
      cases r1
      · simp
      · simp only [Bool.not_true, Bool.false_eq_true, if_false, Bool.true_and]
        exact ih h2
theorem eqIs_ok {E : TypeId → PD → PD → Option Bool} {n : Nat} (hE : ∀ t x y r, E t x y = some r → ∀ u v, RepV w X φ H u (.d x) → RepV w X φ H v (.d y) → (Op.equalIn n t u v).run P w = .ok r w) {e : TypeId} {c : Nat} {xs ys : List PD} {us vs : Array Value} (hu : RepV w X φ H (.agg us) (.d (.agg xs))) (hv : RepV w X φ H (.agg vs) (.d (.agg ys))) :
    ∀ {is : List Nat} {r : Bool}, eqIs P E e c xs ys is = some r → (Op.eqItems n e c us vs is).run P w = .ok r w := by
  intro is
  induction is with
  | nil =>
    intro r h
    simp only [eqIs, Option.some.injEq] at h
    subst h; simp [Op.eqItems]
  | cons i is ih =>
    intro r h
    simp only [eqIs] at h
    split at h <;> try (simp at h; done)
    rename_i p q hp hq
    split at h <;> simp only [Option.some.injEq, reduceCtorEq] at h
    rename_i r1 r2 h1 h2; subst h
    obtain ⟨u, e1, e2⟩ := partD_ok (P := P) hp hu
    obtain ⟨v, e3, e4⟩ := partD_ok (P := P) hq hv
    have e5 := hE _ _ _ _ h1 _ _ e2 e4
    simp only [Op.eqItems, Sem.run_bind, e1, e3, e5, Result.andThen_ok]
    cases r1
    · simp
    · simp only [Bool.not_true, Bool.false_eq_true, if_false, Bool.true_and]
      exact ih h2
theorem eqD_ok (m : Nat) : ∀ (d : Nat) (t : TypeId) (x y : PD) (r : Bool), eqD P d t x y = some r → ∀ u v, RepV w X φ H u (.d x) → RepV w X φ H v (.d y) → (Op.equalIn (m + d) t u v).run P w = .ok r w := by
  intro d
  induction d with
  | zero => intro t x y r h; simp [eqD] at h
  | succ d ih =>
    intro t x y r h u v hu hv
    unfold eqD at h
    split at h <;> try (simp at h; done)
    rename_i z hz
    have hun := (tyOf_parts hz).1
    rw [show m + (d + 1) = (m + d) + 1 from rfl]
    split at h <;> try (simp at h; done)
    · rename_i k hd
      split at h <;> try (simp at h; done)
      split at h <;> simp only [Option.some.injEq, reduceCtorEq] at h
      rename_i hk; subst hk; subst h
      rw [repV_int hu, repV_int hv]
      exact run_equalIn_int w (m + d) t _ k _ _ (by rw [hun, hd])
    · rename_i hd
      split at h <;> simp only [Option.some.injEq, reduceCtorEq] at h
      subst h
      rw [repV_bool hu, repV_bool hv]
      exact run_equalIn_bool w (m + d) t _ _ (by rw [hun, hd])
    · rename_i hd
      split at h <;> simp only [Option.some.injEq, reduceCtorEq] at h
      subst h
      rw [repV_str hu, repV_str hv, beq_toListBytes]
      exact run_equalIn_string w (m + d) t _ _ (by rw [hun, hd])
    · rename_i fs hd
      split at h <;> try (simp at h; done)
      rename_i xs ys
      split at h <;> try (simp at h; done)
      rename_i hst
      obtain ⟨us, rfl, _⟩ := repD_agg_size (repV_d hu)
      obtain ⟨vs, rfl, _⟩ := repD_agg_size (repV_d hv)
      have hf : P.fieldsOf t = fs := by simp only [Program.fieldsOf, hun, hd]
      rw [run_equalIn_struct w (m + d) t us vs (by rw [hf, hun, hd]) hst, hf]
      exact eqFs_ok ih hu hv h
    · rename_i n e hd
      split at h <;> try (simp at h; done)
      rename_i xs ys
      split at h <;> try (simp at h; done)
      rename_i q hq
      obtain ⟨us, rfl, _⟩ := repD_agg_size (repV_d hu)
      obtain ⟨vs, rfl, _⟩ := repD_agg_size (repV_d hv)
      obtain ⟨i, hi, hs⟩ : ∃ i, P.info? e = some i ∧ i.size = q.size := by obtain ⟨_, i, h1, h2, _⟩ := tyOf_parts hq; exact ⟨i, h1, h2⟩
      rw [run_equalIn_array w (m + d) us vs (by rw [hun, hd]) hi, show P.cellsOf e = q.size by simp [Program.cellsOf, hi, hs]]
      exact eqIs_ok ih hu hv h
theorem eqV_ok {t : TypeId} {p q : PV} {r : Bool} (h : eqV P t p q = some r) {u v : Value} (hu : RepV w X φ H u p) (hv : RepV w X φ H v q) :
    ∃ us vs, u = .agg us ∧ v = .agg vs ∧ P.eqGuardType P.depth t = false ∧ (Op.equalIn 10000 t u v).run P w = .ok r w := by
  unfold eqV at h
  split at h <;> try (simp at h; done)
  split at h <;> try (simp at h; done)
  rename_i hg
  have := eqD_ok 9992 8 _ _ _ _ h _ _ hu hv
  obtain ⟨us, rfl, _⟩ := repD_agg_size (repV_d hu)
  obtain ⟨vs, rfl, _⟩ := repD_agg_size (repV_d hv)
  exact ⟨us, vs, rfl, rfl, hg, this⟩
theorem evalL_args (hr : Rep G B N σ a w φ) {c : Call} {p q : PV} (h : evalL σ c.args.toList = [p, q]) : ∃ x y, c.args = #[x, y] ∧ σ.eval x = p ∧ σ.eval y = q := by
  rcases hc : c.args with ⟨l⟩
  rw [hc] at h
  match l, h with
  | [x, y], h => simp [evalL] at h; exact ⟨x, y, rfl, h.1, h.2⟩
  | [], h => simp [evalL] at h
  | [_], h => simp [evalL] at h
  | _ :: _ :: _ :: _, h => simp [evalL] at h
theorem xOp_ok (hr : Rep G B N σ a w φ) {o : Oper} {v : PV} (h : xOp P σ o.op = some v) (ro : Option Nat) : ∃ u, (o.semAt ro a.eval).run P w = .ok (.value u) w ∧ RepV w B.X φ σ.heap u v := by
  rw [Oper.semAt_eq _ _ _ (fun c hc => by rw [hc] at h; simp [xOp] at h)]
  unfold execOp
  unfold xOp at h
  split at h <;> (try (simp at h; done)) <;> rename_i ho <;> simp only [ho]
  · rename_i t x y t2
    simp only [Option.map_eq_some_iff] at h
    obtain ⟨b, hb, rfl⟩ := h
    obtain ⟨us, vs, hu, hv, hg, he⟩ := eqV_ok (P := P) hb (hr.eval x) (hr.eval y)
    refine ⟨.bool b, run_v ?_, .d (.bool _)⟩
    rw [Sem.run_bind, hu, hv, run_eqGuard_agg w .eql t x y us vs hg]
    rw [hu, hv] at he
    show (binOp .eql t (.agg us) (.agg vs)).run P w = _
    rw [run_eql_struct, he]; rfl
  · rename_i t x y t2
    simp only [Option.map_eq_some_iff] at h
    obtain ⟨b, hb, rfl⟩ := h
    obtain ⟨us, vs, hu, hv, hg, he⟩ := eqV_ok (P := P) hb (hr.eval x) (hr.eval y)
    refine ⟨.bool (!b), run_v ?_, .d (.bool _)⟩
    rw [Sem.run_bind, hu, hv, run_eqGuard_agg w .neq t x y us vs hg]
    rw [hu, hv] at he
    show (binOp .neq t (.agg us) (.agg vs)).run P w = _
    rw [run_neq_struct, he]; rfl
  · rename_i c
    have key : ∀ {lo : Bool} {v : PV}, maxO lo (evalL σ c.args.toList) = some v → ∃ k n m, v = .d (.int k (if lo then min n m else max n m)) ∧ ∃ x y, c.args = #[x, y] ∧ a.eval x = .int k n ∧ a.eval y = .int k m := by
      intro lo v h
      unfold maxO at h
      split at h <;> try (simp at h; done)
      rename_i k n k' m he
      split at h <;> simp only [Option.some.injEq, reduceCtorEq] at h
      rename_i hk; subst hk; subst h
      obtain ⟨x, y, h1, h2, h3⟩ := evalL_args hr he
      have hx := hr.eval x; have hy := hr.eval y
      rw [h2] at hx; rw [h3] at hy
      exact ⟨k, n, m, rfl, x, y, h1, repV_int hx, repV_int hy⟩
    split at h <;> try (simp at h; done)
    · rename_i hc
      obtain ⟨k, n, m, rfl, x, y, h1, h2, h3⟩ := key h
      refine ⟨.int k (max n m), ?_, .d (.int _ _)⟩
      simp only [resolve, hc, h1, Sem.run_bind, Sem.run_pure, Result.andThen, invoke, builtin, List.map_toArray, List.map_cons, List.map_nil, h2, h3, Go.Lib.run_max_ints]
    · rename_i hc
      obtain ⟨k, n, m, rfl, x, y, h1, h2, h3⟩ := key h
      refine ⟨.int k (min n m), ?_, .d (.int _ _)⟩
      simp only [resolve, hc, h1, Sem.run_bind, Sem.run_pure, Result.andThen, invoke, builtin, List.map_toArray, List.map_cons, List.map_nil, h2, h3, Go.Lib.run_min_ints]
theorem OpT.x {v : PV} (h : xOp P σ o.op = some v) (hd : dstOk N o.dst) (hK : K (σ.put o.dst v)) : OpT P G ro N o σ K := by
  intro B hro a w φ hr next Q hn
  obtain ⟨u, h1, h2⟩ := xOp_ok hr h ro
  exact wpIn_value h1 (hn _ _ _ φ hK (hr.put hd h2))
theorem xOp_agree {σ' : St} {op : Op} (h : ∀ x ∈ opnds op, σ'.eval x = σ.eval x) : xOp P σ' op = xOp P σ op := by
  cases op <;> try rfl
  case binOp bop t x y z =>
    simp only [opnds, List.mem_cons, List.not_mem_nil, or_false, forall_eq_or_imp, forall_eq] at h
    cases bop <;> try rfl
    all_goals simp only [xOp, h.1, h.2]
  case call c =>
    simp only [xOp]
    have : evalL σ' c.args.toList = evalL σ c.args.toList := evalL_agree fun x hx => h x (by
      simp only [opnds]
      cases c.callee <;> simp_all)
    rw [this]
theorem OpD.x {xs : Exc} {v : PV} (h : xOp P σ o.op = some v) (hd : dstOk N o.dst) (hx : exE xs (dstEff o.dst v)) :
    OpD P G ro N xs o σ (some (tmpKeys (opnds o.op), dstKeys o.dst)) (σ.put o.dst v) := by
  refine ⟨dstEff o.dst v, fun k hk => by rw [ekeys_dst] at hk; exact hk, hx, fun σ' hd' hs _ => ?_, look_put _ _ _, St.put_rest _ _ _⟩
  have h1 := eval_agree (σ := σ) (σ' := σ') (l := opnds o.op) fun k hk => hs k hk
  exact OpT.x (by rw [xOp_agree h1]; exact h) hd ⟨by rw [St.put_rest]; exact hd', look_put _ _ _⟩
def vcStepX (P : Program) (N : Nat) (o : Oper) (σ : St) (K : St → Prop) : Prop :=
  dstOk N o.dst ∧ match xOp P σ o.op with
    | some v => K (σ.put o.dst v)
    | none => False
def vcOpX (P : Program) (N : Nat) (ds : List (Option Tmp)) (o : Oper) (σ : St) (K : St → Prop) : Prop :=
  match o.guard with
  | none => vcStepX P N o σ K
  | some (j, want) => match gval σ ds j with
    | some b => (b = want → vcStepX P N o σ K) ∧ (b ≠ want → dstOk N o.dst ∧ K (σ.put o.dst (.tuple [])))
    | none => gnone σ ds j = true ∧ dstOk N o.dst ∧ K (σ.put o.dst (.tuple []))
theorem OpT.vcX (h : vcStepX P N o σ K) : OpT P G ro N o σ K := by
  obtain ⟨hd, h⟩ := h
  split at h
  · rename_i v hv; exact OpT.x hv hd h
  · exact h.elim
theorem AOps.consX {rest : List Oper} {Q : St → Prop} (h : ∀ K : St → Prop, (∀ σ, AOps P G ro N ops rest σ Q → K σ) → vcOpX P N (dsts ops) o σ K) : AOps P G ro N ops (o :: rest) σ Q := by
  have h := h _ (fun _ h => h)
  unfold vcOpX at h
  split at h
  · rename_i hg; exact AOps.step hg (OpT.vcX h)
  · rename_i j want hg
    split at h
    · rename_i b hb
      by_cases hbw : b = want
      · exact AOps.guardedU hg hb (fun hb => OpT.vcX (h.1 hb)) (h.1 hbw).1 (fun hb => (h.2 hb).2)
      · exact AOps.guardedU hg hb (fun hb => OpT.vcX (h.1 hb)) (h.2 hbw).1 (fun hb => (h.2 hb).2)
    · exact AOps.skip hg h.1 h.2.1 h.2.2
variable {xs : Exc}
theorem exE_tuple0 (dst : Option Tmp) : exE xs (dstEff dst (.tuple [])) := by
  cases dst with
  | none => trivial
  | some d =>
    refine ⟨?_, trivial⟩
    induction xs with
    | nil => trivial
    | cons x l ih => obtain ⟨r, S⟩ := x; exact ⟨.inr (by simp [Cont.rows, rowsOf, rowsOfL]), ih⟩
theorem DStep.noU {j : Nat} {want b : Bool} (hg : o.guard = some (j, want)) (hb : gval σ (dsts ops) j = some b) (hne : b ≠ want) (hd : dstOk N o.dst) :
    DStep P G ro N xs ops o σ (some (gkeys (dsts ops) o.guard, dstKeys o.dst)) (σ.put o.dst (.tuple [])) := by
  refine ⟨dstEff o.dst (.tuple []), fun k hk => by rw [ekeys_dst] at hk; exact hk, exE_tuple0 _, fun s' hs _ B hro a w hR next Q hn => ?_, look_put _ _ _, St.put_rest _ _ _⟩
  obtain ⟨σ', φ, hd', hl, hr⟩ := hR
  have hgv : gval σ' (dsts ops) j = some b := by
    rw [gval_look (σ := σ) (want := want) fun k hk => by rw [hl]; exact hs k (by rw [hg]; exact hk)]; exact hb
  have hy := gval_ok hr hgv
  have : (some b == some want) = false := by simp [hne]
  simp only [Region.wanted, hg, hy, this, Bool.false_eq_true, if_false]
  exact ⟨fun _ _ => trivial, hn _ _ ⟨σ'.put o.dst (.tuple []), φ, by rw [St.put_rest]; exact hd', by rw [look_put, hl], hr.put hd repV_undef⟩⟩
theorem gnone_look {σ' : St} {ds : List (Option Tmp)} {j : Nat} {want : Bool} (h : ∀ k ∈ gkeys ds (some (j, want)), σ'.look k = σ.look k) : gnone σ' ds j = gnone σ ds j := by
  unfold gnone
  simp only [gkeys] at h
  cases hds : ds[j]? with
  | none => rfl
  | some od =>
    cases od with
    | none => rfl
    | some d =>
      rw [hds] at h
      have := h (.t d) (by simp)
      simp only [St.look, Cont.v.injEq] at this
      simp only [this]
theorem DStep.skipU {j : Nat} {want : Bool} (hg : o.guard = some (j, want)) (hb : gnone σ (dsts ops) j = true) (hd : dstOk N o.dst) :
    DStep P G ro N xs ops o σ (some (gkeys (dsts ops) o.guard, dstKeys o.dst)) (σ.put o.dst (.tuple [])) := by
  refine ⟨dstEff o.dst (.tuple []), fun k hk => by rw [ekeys_dst] at hk; exact hk, exE_tuple0 _, fun s' hs _ B hro a w hR next Q hn => ?_, look_put _ _ _, St.put_rest _ _ _⟩
  obtain ⟨σ', φ, hd', hl, hr⟩ := hR
  have hgv : gnone σ' (dsts ops) j = true := by
    rw [gnone_look (σ := σ) (want := want) fun k hk => by rw [hl]; exact hs k (by rw [hg]; exact hk)]; exact hb
  have hy := gnone_ok hr hgv want
  simp only [Region.wanted, hg, hy, Bool.false_eq_true, if_false]
  exact ⟨fun _ _ => trivial, hn _ _ ⟨σ'.put o.dst (.tuple []), φ, by rw [St.put_rest]; exact hd', by rw [look_put, hl], hr.put hd repV_undef⟩⟩
def dgStep (N : Nat) (ds : List (Option Tmp)) (o : Oper) (σ : St) (S : (Foot → St → Prop) → Prop) (K : Foot → St → Prop) : Prop :=
  match o.guard with
  | none => S K
  | some (j, want) => match gval σ ds j with
    | some b => (b = want → S (fun f σ1 => K (f.plus (gkeys ds o.guard)) σ1)) ∧ (b ≠ want → dstOk N o.dst ∧ K (some (gkeys ds o.guard, dstKeys o.dst)) (σ.put o.dst (.tuple [])))
    | none => gnone σ ds j = true ∧ dstOk N o.dst ∧ K (some (gkeys ds o.guard, dstKeys o.dst)) (σ.put o.dst (.tuple []))
theorem DOps.guard {rest : List Oper} {acc : List Foot} {Q : St → Prop} {S : (Foot → St → Prop) → Prop} (hS : ∀ K, S K → OpX P G ro N xs o σ K)
    (h : ∀ K : Foot → St → Prop, (∀ f σ1, DOps P G ro N xs ops Q rest (acc ++ [f]) σ1 → K f σ1) → dgStep N (dsts ops) o σ S K) :
    DOps P G ro N xs ops Q (o :: rest) acc σ := by
  have h := h (fun f σ1 => DOps P G ro N xs ops Q rest (acc ++ [f]) σ1) (fun _ _ h => h)
  unfold dgStep at h
  split at h
  · rename_i hg
    obtain ⟨f, σ1, h1, h2⟩ := hS _ h
    exact .step (DStep.plain hg h1) h2
  · rename_i j want hg
    split at h
    · rename_i b hb
      by_cases hbw : b = want
      · subst hbw
        obtain ⟨f, σ1, h1, h2⟩ := hS _ (h.1 rfl)
        exact .step (DStep.yes hg hb h1) h2
      · obtain ⟨h1, h2⟩ := h.2 hbw
        exact .step (DStep.noU hg hb hbw h1) h2
    · exact .step (DStep.skipU hg h.1 h.2.1) h.2.2
theorem DOps.consU {rest : List Oper} {acc : List Foot} {Q : St → Prop} (h : ∀ K : Foot → St → Prop, (∀ f σ1, DOps P G ro N xs ops Q rest (acc ++ [f]) σ1 → K f σ1) → dgStep N (dsts ops) o σ (dvStep P G ro N xs o σ) K) :
    DOps P G ro N xs ops Q (o :: rest) acc σ := DOps.guard (fun _ => OpX.vc) h
theorem OpX.vcL {K : Foot → St → Prop} (h : dvStepL P N xs o σ K) : OpX P G ro N xs o σ K := by
  obtain ⟨hd, h⟩ := h
  split at h
  · rename_i v hv; exact ⟨_, _, OpD.lit hv hd h.1, h.2⟩
  · exact h.elim
def dvStepX (P : Program) (N : Nat) (xs : Exc) (o : Oper) (σ : St) (K : Foot → St → Prop) : Prop :=
  dstOk N o.dst ∧ match xOp P σ o.op with
  | some v => exE xs (dstEff o.dst v) ∧ K (some (tmpKeys (opnds o.op), dstKeys o.dst)) (σ.put o.dst v)
  | none => False
theorem OpX.vcX {K : Foot → St → Prop} (h : dvStepX P N xs o σ K) : OpX P G ro N xs o σ K := by
  obtain ⟨hd, h⟩ := h
  split at h
  · rename_i v hv; exact ⟨_, _, OpD.x hv hd h.1, h.2⟩
  · exact h.elim
theorem DOps.consLU {rest : List Oper} {acc : List Foot} {Q : St → Prop} (h : ∀ K : Foot → St → Prop, (∀ f σ1, DOps P G ro N xs ops Q rest (acc ++ [f]) σ1 → K f σ1) → dgStep N (dsts ops) o σ (dvStepL P N xs o σ) K) :
    DOps P G ro N xs ops Q (o :: rest) acc σ := DOps.guard (fun _ => OpX.vcL) h
theorem DOps.consX {rest : List Oper} {acc : List Foot} {Q : St → Prop} (h : ∀ K : Foot → St → Prop, (∀ f σ1, DOps P G ro N xs ops Q rest (acc ++ [f]) σ1 → K f σ1) → dgStep N (dsts ops) o σ (dvStepX P N xs o σ) K) :
    DOps P G ro N xs ops Q (o :: rest) acc σ := DOps.guard (fun _ => OpX.vcX) h
theorem DOps.consC {rest : List Oper} {acc : List Foot} {Q : St → Prop} (h : ∀ K : Foot → St → Prop, (∀ f σ1, DOps P G ro N xs ops Q rest (acc ++ [f]) σ1 → K f σ1) → dgStep N (dsts ops) o σ (OpX P G ro N xs o σ) K) :
    DOps P G ro N xs ops Q (o :: rest) acc σ := DOps.guard (fun _ h => h) h
def vcOpC (P : Program) (G : List (Nat × PD)) (ro : Option Nat) (N : Nat) (ds : List (Option Tmp)) (o : Oper) (σ : St) (K : St → Prop) : Prop :=
  match o.guard with
  | none => OpT P G ro N o σ K
  | some (j, want) => match gval σ ds j with
    | some b => (b = want → OpT P G ro N o σ K) ∧ (b ≠ want → dstOk N o.dst ∧ K (σ.put o.dst (.tuple [])))
    | none => gnone σ ds j = true ∧ dstOk N o.dst ∧ K (σ.put o.dst (.tuple []))
theorem AOps.consC {rest : List Oper} {Q : St → Prop} (hd : dstOk N o.dst) (h : ∀ K : St → Prop, (∀ σ, AOps P G ro N ops rest σ Q → K σ) → vcOpC P G ro N (dsts ops) o σ K) : AOps P G ro N ops (o :: rest) σ Q := by
  have h := h _ (fun _ h => h)
  unfold vcOpC at h
  split at h
  · rename_i hg; exact AOps.step hg h
  · rename_i j want hg
    split at h
    · rename_i b hb
      exact AOps.guardedU hg hb h.1 hd (fun hb => (h.2 hb).2)
    · exact AOps.skip hg h.1 h.2.1 h.2.2
theorem OpT.callV {c : Call} {xo : Operand} {f : FuncId} {args : List PV} {res : PV} {K : St → Prop} (ho : o.op = .call c) (hc : c.callee = .value xo) (hx : calleeV (σ.eval xo) = some (f, [])) (hcal : callable P f = true)
    (hf : PureFn P G f args res) (ha : argsOk σ.heap (evalL σ c.args.toList) args) (hd : dstOk N o.dst) (hK : K (σ.put o.dst res)) (hres : dOnly res) (hcl : clean res) (hrf : refsIn [] res) (hren : res.ren id = res) : OpT P G ro N o σ K := by
  refine OpT.callG (g := id) (gc := none) ho hc hx hcal hf (hand_nil σ) (.inl rfl) (handsOk_of_args (by simpa using ha)) hd ?_
  rintro p H' g' ⟨rfl, rfl⟩
  refine ⟨id, ⟨fun r x' h => by simp [hget] at h, fun r x h => by simp [hget] at h, fun r x' h => by simp [hget] at h, fun r s x y h => by simp [hget] at h, fun r x h => by simp [hget] at h⟩, hcl, hrf, ?_⟩
  rw [hren]
  exact hK
end
attribute [go_sem] xOp eqV eqD_s eqFs eqIs partD maxO vcStepX vcOpX dgStep dvStepX vcOpC dvStep calleeV
end Go.Pv

namespace Go.Pv
section
variable {P : Program} {G : List (Nat × PD)} {N : Nat} {σ : St}
end
attribute [go_sem] cleanEnv cleanHeap
@[go_sem high] theorem lenV_lst {α : Type} (e : TypeId) (k : Nat) (f : α → PD) (l : List α) : lenV (.slice e) (.d (lstD k (lenc f l))) = some (l.length : Int) := by
  cases l with
  | nil => rfl
  | cons x l => simp [lstD, lenc, lenV]
@[go_sem high] theorem nilEq_lst {α : Type} (e : TypeId) (k : Nat) (f : α → PD) (l : List α) : nilEq (.slice e) (.d (lstD k (lenc f l))) (.d .nilslice) = some l.isEmpty := by
  cases l with
  | nil => rfl
  | cons x l => simp [lstD, lenc, nilEq, guardO]
@[go_sem high] theorem binV_lst {α : Type} (P : Program) (t : TypeId) (k : Nat) (f : α → PD) (l : List α) : binV P .eql t (.d (lstD k (lenc f l))) (.d .nilslice) = (tyOf P t).bind fun z => (nilEq z.desc (.d (lstD k (lenc f l))) (.d .nilslice)).map fun r => .d (.bool r) := by
  cases l <;> rfl
@[go_sem high] theorem binV_lst' {α : Type} (P : Program) (t : TypeId) (k : Nat) (f : α → PD) (l : List α) : binV P .neq t (.d (lstD k (lenc f l))) (.d .nilslice) = (tyOf P t).bind fun z => (nilEq z.desc (.d (lstD k (lenc f l))) (.d .nilslice)).map fun r => .d (.bool (!r)) := by
  cases l <;> rfl
@[go_sem] theorem isByte_lst (k : Nat) (l : List PD) : isByte.match_1 (motive := fun _ => Bool) (.d (lstD k l)) (fun _ => true) (fun _ => false) = false := by cases l <;> rfl
@[go_sem high] theorem pvCells_lst {α : Type} (k : Nat) (f : α → PD) (l : List α) : pvCells (.d (lstD k (lenc f l))) = some [.d (lstD k (lenc f l))] := by
  cases l <;> rfl
@[go_sem high] theorem elemLoad_lst {α : Type} (P : Program) (t : TypeId) (k : Nat) (f : α → PD) (l : List α) (off : Nat) : elemLoad P t (.d (lstD k (lenc f l))) off = match tyOf P t with
    | none => none
    | some y => if isAggD y.desc = true then none else if off = 0 then some (.d (lstD k (lenc f l))) else none := by
  unfold elemLoad
  cases tyOf P t with
  | none => rfl
  | some y => cases l <;> rfl
theorem FnG.less {P : Program} {G : List (Nat × PD)} {f : FuncId} {args : List PV} {H : Heap} {g : Gh} {R R2 : PV → Heap → Gh → Prop} (h : FnG P G f args H g R)
    (hl : ∀ p H' g', R p H' g' → ∃ H2, heapLe H2 H' ∧ heapRefs H2 H2 ∧ refsIn H2 p ∧ R2 p H2 g') : FnG P G f args H g R2 := by
  intro B φ vs h0 h1 h2 h3
  refine (h B φ vs h0 h1 h2 h3).mono ?_
  rintro e w' ⟨v, p, H', g', φ', he, hR, hv, hs⟩
  obtain ⟨H2, h4, h5, h6, h7⟩ := hl p H' g' hR
  exact ⟨v, p, H2, g', φ', he, h7, hv.less (heapLe_get h4) h6, hs.less (heapLe_get h4) (heapRefs_get h5)⟩
end Go.Pv

namespace Go.Pv
def sn (c i : Nat) : Nat := 1000000 + 16 * i + c
def dynGo (c : Nat) : Nat → List (Option Row) → Heap
  | _, [] => []
  | i, none :: M => dynGo c (i + 1) M
  | i, some y :: M => (sn c i, y) :: dynGo c (i + 1) M
def dynH (c : Nat) (M : List (Option Row)) (l : Heap) : Heap := dynGo c 0 M ++ l
def lows : Heap → Prop
  | [] => True
  | (r, _) :: l => r < 1000000 ∧ lows l
theorem lows_get : ∀ {l : Heap}, lows l → ∀ r, 1000000 ≤ r → hget l r = none
  | [], _, r, _ => rfl
  | (s, x) :: l, h, r, hr => by
    simp only [hget]
    rw [if_neg (by have := h.1; omega)]
    exact lows_get h.2 r hr
theorem hget_append (D l : Heap) (r : Nat) : hget (D ++ l) r = match hget D r with | some x => some x | none => hget l r := by
  induction D with
  | nil => rfl
  | cons x D ih =>
    obtain ⟨s, y⟩ := x
    simp only [List.cons_append, hget]
    split
    · rfl
    · exact ih
theorem hget_dynGo_low {c : Nat} {r : Nat} (hr : r < 1000000) : ∀ (M : List (Option Row)) (i : Nat), hget (dynGo c i M) r = none
  | [], _ => rfl
  | none :: M, i => hget_dynGo_low hr M (i + 1)
  | some y :: M, i => by
    simp only [dynGo, hget]
    rw [if_neg (by unfold sn; omega)]
    exact hget_dynGo_low hr M (i + 1)
theorem hget_dynGo {c : Nat} : ∀ (M : List (Option Row)) (i j : Nat), hget (dynGo c i M) (sn c j) = if i ≤ j then (M[j - i]?).join else none
  | [], i, j => by simp [dynGo, hget]
  | none :: M, i, j => by
    simp only [dynGo]
    rw [hget_dynGo M (i + 1) j]
    by_cases h : i ≤ j
    · rw [if_pos h]
      by_cases h2 : i = j
      · subst h2; rw [if_neg (by omega)]; simp
      · rw [if_pos (by omega), show j - i = (j - (i + 1)) + 1 by omega, List.getElem?_cons_succ]
    · rw [if_neg h, if_neg (by omega)]
  | some y :: M, i, j => by
    simp only [dynGo, hget]
    by_cases h2 : i = j
    · subst h2; simp
    · rw [if_neg (by unfold sn; omega), hget_dynGo M (i + 1) j]
      by_cases h : i ≤ j
      · rw [if_pos h, if_pos (by omega), show j - i = (j - (i + 1)) + 1 by omega, List.getElem?_cons_succ]
      · rw [if_neg h, if_neg (by omega)]
theorem hget_dyn {c : Nat} {M : List (Option Row)} {l : Heap} {r : Nat} (hr : r < 1000000) : hget (dynH c M l) r = hget l r := by
  simp only [dynH, hget_append, hget_dynGo_low hr]
theorem hget_dyn_sn {c : Nat} {M : List (Option Row)} {l : Heap} (j : Nat) (hl : lows l) : hget (dynH c M l) (sn c j) = (M[j]?).join := by
  simp only [dynH, hget_append, hget_dynGo, Nat.zero_le, if_true, Nat.sub_zero]
  cases (M[j]?).join with
  | some x => rfl
  | none => exact lows_get hl _ (by unfold sn; omega)
theorem dyR {c : Nat} {M : List (Option Row)} {l : Heap} {r : Nat} {x : Option Row} (h : hget l r = x) (hr : r < 1000000 := by decide) : hget (dynH c M l) r = x := (hget_dyn hr).trans h
theorem dyS {c : Nat} {M : List (Option Row)} {l : Heap} {r : Nat} (h : (hget l r).isSome = true) (hr : r < 1000000 := by decide) : (hget (dynH c M l) r).isSome = true := by rw [hget_dyn hr]; exact h
theorem hput_append {D l : Heap} {r : Nat} {x : Row} (h : hget D r = none) : hput (D ++ l) r x = D ++ hput l r x := by
  induction D with
  | nil => rfl
  | cons y D ih =>
    obtain ⟨s, z⟩ := y
    simp only [hget] at h
    split at h
    · cases h
    · rename_i hs
      simp only [List.cons_append, hput]
      rw [if_neg hs, ih h]
theorem hput_dyn {c : Nat} {M : List (Option Row)} {l : Heap} {r : Nat} {x : Row} (hr : r < 1000000) : hput (dynH c M l) r x = dynH c M (hput l r x) := hput_append (hget_dynGo_low hr M 0)
class DataM (M : List (Option Row)) : Prop where
  data : ∀ y : Row, some y ∈ M → 1 ≤ y.k ∧ ∃ l : List PD, y.els = l.map PV.d
def nelsGo {α : Type} (f : Nat → α → PV) : Nat → List α → List PV
  | _, [] => []
  | i, x :: l => f i x :: nelsGo f (i + 1) l
def nels {α : Type} (f : Nat → α → PV) (l : List α) : List PV := nelsGo f 0 l
theorem nelsGo_length {α : Type} (f : Nat → α → PV) : ∀ (l : List α) (i : Nat), (nelsGo f i l).length = l.length
  | [], _ => rfl
  | x :: l, i => by simp [nelsGo, nelsGo_length f l]
theorem nelsGo_get {α : Type} (f : Nat → α → PV) : ∀ (l : List α) (i j : Nat), (nelsGo f i l)[j]? = (l[j]?).map (f (i + j))
  | [], i, j => by simp [nelsGo]
  | x :: l, i, 0 => by simp [nelsGo]
  | x :: l, i, j + 1 => by
    simp only [nelsGo, List.getElem?_cons_succ]
    rw [nelsGo_get f l (i + 1) j, show i + 1 + j = i + (j + 1) by omega]
theorem nels_length {α : Type} (f : Nat → α → PV) (l : List α) : (nels f l).length = l.length := nelsGo_length f l 0
theorem nels_get {α : Type} (f : Nat → α → PV) (l : List α) (j : Nat) : (nels f l)[j]? = (l[j]?).map (f j) := by
  unfold nels; rw [nelsGo_get, Nat.zero_add]
theorem nels_set {α : Type} (f : Nat → α → PV) (l : List α) (j : Nat) (x : α) : (nels f l).set j (f j x) = nels f (l.set j x) := by
  apply List.ext_getElem?
  intro i
  rw [nels_get, List.getElem?_set, List.getElem?_set, nels_length, nels_get]
  by_cases h : j = i
  · subst h
    by_cases hl : j < l.length
    · simp [hl]
    · simp [hl]
  · simp [h]
theorem nels_push {α : Type} (f : Nat → α → PV) (l : List α) (x : α) : nels f l ++ [f l.length x] = nels f (l ++ [x]) := by
  apply List.ext_getElem?
  intro i
  rw [nels_get, List.getElem?_append, List.getElem?_append, nels_length, nels_get]
  by_cases h : i < l.length
  · simp [h]
  · rw [if_neg h, if_neg h]
    by_cases h2 : i = l.length
    · subst h2; simp
    · rw [List.getElem?_eq_none (by simp; omega), List.getElem?_eq_none (by simp; omega)]; rfl
end Go.Pv

namespace Go.Pv
class NestF {α : Type} (F : Nat → α → PV) : Prop where
  ren : ∀ ρ r x, (F r x).ren ρ = F (ρ r) x
  rows : ∀ r x s, s ∈ rowsOf (F r x) → s = r
  refs : ∀ H r x, (hget H r).isSome = true → refsIn H (F r x)
  kill : ∀ q r x, r ≠ q → (F r x).kill q = F r x
  clean : ∀ r x, clean (F r x)
  byte : ∀ r x, isByte (F r x) = false
class NestG {α : Type} (g : α → Row) : Prop where
  data : ∀ x, 1 ≤ (g x).k ∧ ∃ l : List PD, (g x).els = l.map PV.d
def nelF {α : Type} (c : Nat) (F : Nat → α → PV) (L : List α) : List PV := nels (fun i x => F (sn c i) x) L
def subs {α : Type} (g : α → Row) (L : List α) : List (Option Row) := L.map fun x => some (g x)
instance {α : Type} (g : α → Row) [NestG g] (L : List α) : DataM (subs g L) := ⟨fun y hy => by
  simp only [subs, List.mem_map, Option.some.injEq] at hy
  obtain ⟨x, _, rfl⟩ := hy
  exact NestG.data x⟩
instance {α : Type} (g : α → Row) [NestG g] (L : List α) (i : Nat) : DataM ((subs g L).set i none) := ⟨fun y hy => by
  rcases List.mem_or_eq_of_mem_set hy with h | h
  · exact (inferInstance : DataM (subs g L)).data y h
  · cases h⟩
theorem subs_get {α : Type} (g : α → Row) (L : List α) (j : Nat) : ((subs g L)[j]?).join = (L[j]?).map g := by
  simp only [subs, List.getElem?_map]
  cases L[j]? <;> rfl
theorem sn_ne {c i r : Nat} (h : r < 1000000) : r ≠ sn c i := by unfold sn; omega
@[go_sem] theorem sn_eq1 {c i r : Nat} (h : r < 1000000) : (r = sn c i) = False := by simp [sn_ne h]
@[go_sem] theorem sn_eq2 {c i r : Nat} (h : r < 1000000) : (sn c i = r) = False := by simp [Ne.symm (sn_ne (c := c) (i := i) h)]
attribute [go_sem] hget_dyn hput_dyn
theorem freshLow_append_high {D l : Heap} (h : ∀ x ∈ D, 1000000 ≤ x.1) : freshLow (D ++ l) = freshLow l := by
  induction D with
  | nil => rfl
  | cons x D ih =>
    obtain ⟨s, y⟩ := x
    simp only [List.cons_append, freshLow]
    rw [if_pos (h (s, y) (List.mem_cons_self ..)), ih fun x hx => h x (List.mem_cons_of_mem _ hx)]
@[go_sem] theorem freshLow_dyn {c : Nat} {M : List (Option Row)} {l : Heap} : freshLow (dynH c M l) = freshLow l := freshLow_append_high (by
  have : ∀ (M : List (Option Row)) (i : Nat), ∀ x ∈ dynGo c i M, 1000000 ≤ x.1 := fun M => by
    induction M with
    | nil => intro i x hx; simp [dynGo] at hx
    | cons o M ih =>
      intro i x hx
      cases o with
      | none => exact ih (i + 1) x hx
      | some y =>
        rcases List.mem_cons.1 hx with rfl | hx
        · show 1000000 ≤ sn c i; unfold sn; omega
        · exact ih (i + 1) x hx
  exact this M 0)
theorem hkill_append (r : Nat) (D l : Heap) : hkill r (D ++ l) = hkill r D ++ hkill r l := by
  induction D with
  | nil => rfl
  | cons x D ih =>
    obtain ⟨s, y⟩ := x
    simp only [List.cons_append, hkill]
    split
    · exact ih
    · rw [ih]; rfl
theorem hkill_dynGo {c r : Nat} (hr : r < 1000000) : ∀ (M : List (Option Row)) (i : Nat), (∀ y : Row, some y ∈ M → 1 ≤ y.k ∧ ∃ l : List PD, y.els = l.map PV.d) → hkill r (dynGo c i M) = dynGo c i M
  | [], i, _ => rfl
  | none :: M, i, h => hkill_dynGo hr M (i + 1) fun y hy => h y (List.mem_cons_of_mem _ hy)
  | some y :: M, i, h => by
    simp only [dynGo, hkill]
    rw [if_neg (Ne.symm (sn_ne hr)), hkill_dynGo hr M (i + 1) fun y hy => h y (List.mem_cons_of_mem _ hy)]
    obtain ⟨_, l, hl⟩ := h y (List.mem_cons_self ..)
    have : killL r y.els = y.els := by rw [hl]; exact dl_kill r l
    rw [this]
@[go_sem] theorem hkill_dyn {c r : Nat} {M : List (Option Row)} [hM : DataM M] {l : Heap} (hr : r < 1000000) : hkill r (dynH c M l) = dynH c M (hkill r l) := by
  simp only [dynH, hkill_append, hkill_dynGo hr M 0 hM.data]
theorem heapLe_append {D l h : Heap} (h1 : heapLe D h) (h2 : heapLe l h) : heapLe (D ++ l) h := by
  induction D with
  | nil => exact h2
  | cons x D ih => obtain ⟨s, y⟩ := x; exact ⟨h1.1, ih h1.2⟩
theorem heapLe_dyn {c : Nat} {M M' : List (Option Row)} {l l2 : Heap} (e : M = M') (h : heapLe l (dynH c M' l2)) : heapLe (dynH c M l) (dynH c M' l2) := by
  subst e
  refine heapLe_append ?_ h
  have : ∀ (N : List (Option Row)) (i : Nat), (∀ j, i ≤ j → (N[j - i]?).join = (M[j]?).join) → heapLe (dynGo c i N) (dynH c M l2) := fun N => by
    induction N with
    | nil => exact fun i _ => trivial
    | cons o N ih =>
      intro i hN
      have ih' := ih (i + 1) fun j hj => by
        have := hN j (by omega)
        rw [show j - i = (j - (i + 1)) + 1 by omega, List.getElem?_cons_succ] at this; exact this
      cases o with
      | none => exact ih'
      | some y =>
        refine ⟨?_, ih'⟩
        have h1 := hN i (Nat.le_refl _)
        simp at h1
        simp only [dynH, hget_append, hget_dynGo, Nat.zero_le, if_true, Nat.sub_zero, ← h1]
  exact this M 0 fun j _ => rfl
theorem heapRefs_append {H0 D l : Heap} (h1 : heapRefs H0 D) (h2 : heapRefs H0 l) : heapRefs H0 (D ++ l) := by
  induction D with
  | nil => exact h2
  | cons x D ih => obtain ⟨s, y⟩ := x; exact ⟨h1.1, ih h1.2⟩
theorem heapRefs_dyn {c : Nat} {M : List (Option Row)} [hM : DataM M] {H0 l : Heap} (h : heapRefs H0 l) : heapRefs H0 (dynH c M l) := by
  refine heapRefs_append ?_ h
  have : ∀ (N : List (Option Row)) (i : Nat), (∀ y : Row, some y ∈ N → 1 ≤ y.k ∧ ∃ l : List PD, y.els = l.map PV.d) → heapRefs H0 (dynGo c i N) := fun N => by
    induction N with
    | nil => exact fun i _ => trivial
    | cons o N ih =>
      intro i hN
      have ih' := ih (i + 1) fun y hy => hN y (List.mem_cons_of_mem _ hy)
      cases o with
      | none => exact ih'
      | some y =>
        refine ⟨?_, ih'⟩
        obtain ⟨_, l, hl⟩ := hN y (List.mem_cons_self ..)
        show refsInL H0 y.els
        rw [hl, refsInL_d]; trivial
  exact this M 0 hM.data
theorem refsInL_each {H : Heap} : ∀ {l : List PV}, (∀ (i : Nat) (p : PV), l[i]? = some p → refsIn H p) → refsInL H l
  | [], _ => trivial
  | p :: l, h => ⟨h 0 p rfl, refsInL_each fun i q hq => h (i + 1) q (by simpa using hq)⟩
@[go_sem] theorem nelF_length {α : Type} (c : Nat) (F : Nat → α → PV) (L : List α) : (nelF c F L).length = L.length := nels_length _ L
theorem nelF_get {α : Type} (c : Nat) (F : Nat → α → PV) (L : List α) (i : Nat) : (nelF c F L)[i]? = (L[i]?).map (F (sn c i)) := nels_get _ L i
attribute [go_sem] nelF_get
theorem nelF_refs {α : Type} {c : Nat} {F : Nat → α → PV} {g : α → Row} [NestF F] {L : List α} {l : Heap} (hl : lows l) : refsInL (dynH c (subs g L) l) (nelF c F L) := refsInL_each fun i p hp => by
  rw [nelF_get, Option.map_eq_some_iff] at hp
  obtain ⟨x, h1, rfl⟩ := hp
  exact NestF.refs _ _ _ (by rw [hget_dyn_sn i hl, subs_get, h1]; rfl)
theorem killL_of {r : Nat} {l : List PV} (h : ∀ (i : Nat) (p : PV), l[i]? = some p → p.kill r = p) : killL r l = l := by
  rw [killL_map]
  apply List.ext_getElem?
  intro i
  rw [List.getElem?_map]
  cases hi : l[i]? with
  | none => rfl
  | some p => rw [Option.map_some, h i p hi]
@[go_sem] theorem nelF_kill {α : Type} {c r : Nat} {F : Nat → α → PV} [NestF F] {L : List α} (hr : r < 1000000) : killL r (nelF c F L) = nelF c F L := killL_of fun i p hp => by
  rw [nelF_get, Option.map_eq_some_iff] at hp
  obtain ⟨x, _, rfl⟩ := hp
  exact NestF.kill _ _ _ (Ne.symm (sn_ne hr))
@[go_sem] theorem nelF_kill_hole {α : Type} {c r i : Nat} {F : Nat → α → PV} [NestF F] {L : List α} {p : PV} (hr : r < 1000000) : killL r ((nelF c F L).set i p) = (nelF c F L).set i (p.kill r) := by
  rw [killL_map, List.map_set, ← killL_map, nelF_kill hr]
theorem rowsOfL_of {r : Nat} : ∀ {l : List PV}, (∀ (i : Nat) (p : PV), l[i]? = some p → r ∉ rowsOf p) → r ∉ rowsOfL l
  | [], _ => by simp [rowsOfL]
  | p :: l, h => by
    simp only [rowsOfL, List.mem_append, not_or]
    exact ⟨h 0 p rfl, rowsOfL_of fun i q hq => h (i + 1) q (by simpa using hq)⟩
theorem nelF_notin {α : Type} {c r : Nat} {F : Nat → α → PV} [NestF F] {L : List α} (hr : r < 1000000) : r ∉ rowsOfL (nelF c F L) := rowsOfL_of fun i p hp hm => by
  rw [nelF_get, Option.map_eq_some_iff] at hp
  obtain ⟨x, _, rfl⟩ := hp
  exact sn_ne hr (NestF.rows _ _ _ hm)
theorem nelF_notin_hole {α : Type} {c r i : Nat} {F : Nat → α → PV} [NestF F] {L : List α} {p : PV} (hr : r < 1000000) (hp : (rowsOf p).contains r = false) : r ∉ rowsOfL ((nelF c F L).set i p) := rowsOfL_of fun j q hq hm => by
  rw [List.getElem?_set] at hq
  split at hq
  · split at hq
    · cases hq; simp at hp; exact hp hm
    · cases hq
  · rw [nelF_get, Option.map_eq_some_iff] at hq
    obtain ⟨x, _, rfl⟩ := hq
    exact sn_ne hr (NestF.rows _ _ _ hm)
theorem nelF_free {α : Type} {c r : Nat} {F : Nat → α → PV} [NestF F] {L : List α} (hr : r < 1000000) : (rowsOfL (nelF c F L)).contains r = false := by simpa using nelF_notin hr
theorem rowsOfL_append (a b : List PV) : rowsOfL (a ++ b) = rowsOfL a ++ rowsOfL b := by
  induction a with
  | nil => rfl
  | cons x a ih => simp only [List.cons_append, rowsOfL, ih, List.append_assoc]
@[go_sem] theorem nelF_app_free {α : Type} {c r : Nat} {F : Nat → α → PV} [NestF F] {L : List α} {b : List PV} (hr : r < 1000000) : (rowsOfL (nelF c F L ++ b)).contains r = (rowsOfL b).contains r := by
  rw [rowsOfL_append, List.contains_eq_mem, List.contains_eq_mem]
  have h := nelF_notin (c := c) (F := F) (L := L) hr
  simp [h]
theorem nelF_free_hole {α : Type} {c r i : Nat} {F : Nat → α → PV} [NestF F] {L : List α} {p : PV} (hr : r < 1000000) (hp : (rowsOf p).contains r = false) : (rowsOfL ((nelF c F L).set i p)).contains r = false := by simpa using nelF_notin_hole hr hp
theorem nestG_free {α : Type} (g : α → Row) [NestG g] (x : α) (r : Nat) : (rowsOfL (g x).els).contains r = false := by
  obtain ⟨_, l, h⟩ := NestG.data (g := g) x
  rw [h]
  have e : rowsOfL (l.map PV.d) = [] := dl_rows l
  rw [e]; rfl
theorem exHeap_append {r : Nat} {S : List Nat} {D l : Heap} (h1 : exHeap r S D) (h2 : exHeap r S l) : exHeap r S (D ++ l) := by
  induction D with
  | nil => exact h2
  | cons x D ih => obtain ⟨s, y⟩ := x; exact ⟨h1.1, ih h1.2⟩
theorem exHeap_dyn {c r : Nat} {S : List Nat} {M : List (Option Row)} [hM : DataM M] {l : Heap} (h : exHeap r S l) : exHeap r S (dynH c M l) := by
  refine exHeap_append ?_ h
  have : ∀ (N : List (Option Row)) (i : Nat), (∀ y : Row, some y ∈ N → 1 ≤ y.k ∧ ∃ l : List PD, y.els = l.map PV.d) → exHeap r S (dynGo c i N) := fun N => by
    induction N with
    | nil => exact fun i _ => trivial
    | cons o N ih =>
      intro i hN
      have ih' := ih (i + 1) fun y hy => hN y (List.mem_cons_of_mem _ hy)
      cases o with
      | none => exact ih'
      | some y =>
        refine ⟨.inr ?_, ih'⟩
        obtain ⟨_, l, hl⟩ := hN y (List.mem_cons_self ..)
        have e : rowsOfL y.els = [] := by rw [hl]; exact dl_rows l
        rw [e]; rfl
  exact this M 0 hM.data
end Go.Pv

namespace Go.Pv
def kenv (ks : List Nat) (e : List (Nat × PV)) : List (Nat × PV) := match ks with
  | [] => []
  | k :: l => (k, eget e k) :: kenv l e
def kheap (ks : List Nat) (h : Heap) : Heap := match ks with
  | [] => []
  | k :: l => match hget h k with
    | some x => (k, x) :: kheap l h
    | none => kheap l h
theorem idx_bind {α β : Type} {l : List α} {i : Int} {f : α → Option β} {r : β} (h : (idx l i).bind f = some r) : ∃ x, (0 ≤ i ∧ i < l.length ∧ l[i.toNat]? = some x ∧ i.toNat < l.length) ∧ f x = some r :=
  let ⟨x, h1, h2⟩ := bind_some h; ⟨x, idx_some h1, h2⟩
section
variable {P : Program} {G : List (Nat × PD)} {ro : Option Nat} {N : Nat} {ops : Array Oper} {σ τ σ' : St} {o : Oper} {rest : List Oper}
theorem pf {f : FuncId} {fn : Func} {c : Code} {args : List PV} {res : PV} {n : Nat} {e0 : List (Nat × PV)} (hf : P.funcs[f]? = some fn) (hn : fn.ntmps = n)
    (h : AWp P G none n c ⟨e0, [], [], none⟩ (Fin P G fn fun p H => ∃ u, frzT H p = some u ∧ leV u res)) (hb : fn.body = some c := by rfl) (hN : args.length ≤ n := by simp)
    (he : argEnv 0 args = e0 := by (simp only [argEnv, Nat.reduceAdd, Nat.zero_add]; rfl)) : PureFn P G f args res := by
  subst hn he; exact PureFn.intro2 hf hb hN h
theorem Fn.pf {f : FuncId} {fn : Func} {c : Code} {args : List PV} {n : Nat} {e0 : List (Nat × PV)} {R : PV → Heap → Prop} (hf : P.funcs[f]? = some fn) (hn : fn.ntmps = n)
    (h : AWp P G none n c ⟨e0, [], [], none⟩ (Fin P G fn R)) (hb : fn.body = some c := by rfl) (hN : args.length ≤ n := by simp)
    (he : argEnv 0 args = e0 := by (simp only [argEnv, Nat.reduceAdd, Nat.zero_add]; rfl)) : Fn P G f args [] R := by
  subst hn he; exact Fn.intro hf hb hN h
theorem rt {fn : Func} {p u res : PV} (hp : resV P G fn.results.toList σ = some p := by (simp only [go_sem, List.length_append, List.length_set, List.length_replicate, ↓reduceIte]; rfl))
    (hd : σ.dfr = [] := by first | exact True.intro | rfl)
    (hf : frzT σ.heap p = some u := by (simp only [go_sem, lenc_nil, List.take_length, List.length_append, List.length_set, List.length_replicate, ↓reduceIte]; rfl))
    (hl : leV u res := by first | exact leV_refl _ | (simp only [go_sem, leV, leVL, leD, leDL, lenc_nil, leD_refl, leDL_refl, lstD_le, ↓reduceIte]; done)) :
    Fin P G fn (fun p H => ∃ u, frzT H p = some u ∧ leV u res) .ret σ := ⟨p, hp, hd, u, hf, hl⟩
theorem sg {id : Nat} {l : List Oper} {y : Code} {Q : Post} (h : ∀ K : St → Prop, (∀ σ, AWp P G ro N y σ Q → K σ) → AOps P G ro N l.toArray l σ K) : AWp P G ro N (.seq (.region id l.toArray false) y) σ Q :=
  AWp.seq fun K hK => AWp.reg (h K hK)
theorem sd {id : Nat} {l : List Oper} {y : Code} {Q : Post} (hm : P.follows .mixedOrders = true) (h : ∀ K : St → Prop, (∀ σ, AWp P G ro N y σ Q → K σ) → DOps P G ro N [] l.toArray K l [] σ) : AWp P G ro N (.seq (.region id l.toArray true) y) σ Q :=
  AWp.seq fun K hK => AWp.draw hm [] trivial (h K hK)
theorem oo {Q : St → Prop} (h2 : AOps P G ro N ops rest σ' Q) (h : ∀ K : St → Prop, K σ' → vcOpU P G ro N (dsts ops) o σ K := by (intro K k; simp (disch := omega) only [go_sem, ↓reduceIte]; exact k)) : AOps P G ro N ops (o :: rest) σ Q :=
  AOps.consU fun K hK => h K (hK _ h2)
theorem ol {Q : St → Prop} (h2 : AOps P G ro N ops rest σ' Q) (h : ∀ K : St → Prop, K σ' → vcOpL P N (dsts ops) o σ K := by (intro K k; simp (disch := omega) only [go_sem, ↓reduceIte]; exact k)) : AOps P G ro N ops (o :: rest) σ Q :=
  AOps.consL fun K hK => h K (hK _ h2)
theorem ox {Q : St → Prop} (h2 : AOps P G ro N ops rest σ' Q) (h : ∀ K : St → Prop, K σ' → vcOpX P N (dsts ops) o σ K := by (intro K k; simp (disch := omega) only [go_sem, ↓reduceIte]; exact k)) : AOps P G ro N ops (o :: rest) σ Q :=
  AOps.consX fun K hK => h K (hK _ h2)
theorem dd {xs : Exc} {acc : List Foot} {f : Foot} {Q : St → Prop} (h2 : DOps P G ro N xs ops Q rest (acc ++ [f]) σ') (h : ∀ K : Foot → St → Prop, K f σ' → dgStep N (dsts ops) o σ (dvStep P G ro N xs o σ) K := by (intro K k; simp (disch := omega) only [go_sem, ↓reduceIte]; exact k)) : DOps P G ro N xs ops Q (o :: rest) acc σ :=
  DOps.consU fun K hK => h K (hK _ _ h2)
theorem ddl {xs : Exc} {acc : List Foot} {f : Foot} {Q : St → Prop} (h2 : DOps P G ro N xs ops Q rest (acc ++ [f]) σ') (h : ∀ K : Foot → St → Prop, K f σ' → dgStep N (dsts ops) o σ (dvStepL P N xs o σ) K := by (intro K k; simp (disch := omega) only [go_sem, ↓reduceIte]; exact k)) : DOps P G ro N xs ops Q (o :: rest) acc σ :=
  DOps.consLU fun K hK => h K (hK _ _ h2)
theorem ddx {xs : Exc} {acc : List Foot} {f : Foot} {Q : St → Prop} (h2 : DOps P G ro N xs ops Q rest (acc ++ [f]) σ') (h : ∀ K : Foot → St → Prop, K f σ' → dgStep N (dsts ops) o σ (dvStepX P N xs o σ) K := by (intro K k; simp (disch := omega) only [go_sem, ↓reduceIte]; exact k)) : DOps P G ro N xs ops Q (o :: rest) acc σ :=
  DOps.consX fun K hK => h K (hK _ _ h2)
theorem cl {f : FuncId} {c : Call} {args : List PV} {res : PV} {Q : St → Prop} (hf : PureFn P G f args res) (h2 : AOps P G ro N ops rest σ' Q) (hg : ∀ {K : St → Prop}, OpT P G ro N o σ K → vcOpU P G ro N (dsts ops) o σ K := by (intro K k; simp (disch := omega) only [go_sem, ↓reduceIte]; exact k))
    (ho : o.op = .call c := by rfl) (hc : c.callee = .value (.func f) := by rfl) (hcal : callable P f = true := by kernel_rfl)
    (ha : argsOk σ.heap (evalL σ c.args.toList) args := by (repeat' (first | exact trivial | exact rfl | exact dyR rfl | exact dyS rfl | refine heapLe_dyn rfl ?_ | refine heapRefs_dyn ?_ | exact nelF_refs (by repeat' (first | exact trivial | decide | apply And.intro)) | exact dyBR rfl | exact dyBS rfl | refine heapLe_dynBH rfl ?_ | refine heapRefs_dynBH ?_ | exact nelB_refs (by repeat' (first | exact trivial | decide | apply And.intro)) | exact nelB_refs_hole (by repeat' (first | exact trivial | decide | apply And.intro)) (by repeat' (first | exact trivial | exact dyBS rfl | apply And.intro)) | apply And.intro))) (hd : dstOk N o.dst := by (simp only [go_sem, ↓reduceIte]; done))
    (hp : σ.put o.dst res = σ' := by (simp only [go_sem, ↓reduceIte]; rfl)) (hr : dOnly res := by (simp only [go_sem]; done)) : AOps P G ro N ops (o :: rest) σ Q :=
  AOps.consU fun _ hK => hg (OpT.call ho hc hcal hf ha hd (hp ▸ hK _ h2) hr)
theorem dcl {f : FuncId} {c : Call} {args : List PV} {res : PV} {xs : Exc} {acc : List Foot} {ft : Foot} {Q : St → Prop} (hf : PureFn P G f args res) (h2 : DOps P G ro N xs ops Q rest (acc ++ [ft]) σ')
    (ho : o.op = .call c := by rfl) (hc : c.callee = .value (.func f) := by rfl) (hcal : callable P f = true := by kernel_rfl)
    (ha : argsOk σ.heap (evalL σ c.args.toList) args := by (repeat' (first | exact trivial | exact rfl | exact dyR rfl | exact dyS rfl | refine heapLe_dyn rfl ?_ | refine heapRefs_dyn ?_ | exact nelF_refs (by repeat' (first | exact trivial | decide | apply And.intro)) | exact dyBR rfl | exact dyBS rfl | refine heapLe_dynBH rfl ?_ | refine heapRefs_dynBH ?_ | exact nelB_refs (by repeat' (first | exact trivial | decide | apply And.intro)) | exact nelB_refs_hole (by repeat' (first | exact trivial | decide | apply And.intro)) (by repeat' (first | exact trivial | exact dyBS rfl | apply And.intro)) | apply And.intro))) (hd : dstOk N o.dst := by (simp only [go_sem, ↓reduceIte]; done))
    (hp : σ.put o.dst res = σ' := by (simp only [go_sem, ↓reduceIte]; rfl)) (hr : dOnly res := by (simp only [go_sem]; done)) (hx : exE xs (dstEff o.dst res) := by (simp only [go_sem, or_true, true_or, ↓reduceIte]; done))
    (hg : ∀ (S : (Foot → St → Prop) → Prop) (K : Foot → St → Prop), (∀ K', K' (some (tmpKeys (opnds o.op) ++ rowKeys σ (opnds o.op), dstKeys o.dst)) σ' → S K') → K ft σ' → dgStep N (dsts ops) o σ S K := by (intro S K hS k; simp (disch := omega) only [go_sem, ↓reduceIte]; exact hS _ k)) : DOps P G ro N xs ops Q (o :: rest) acc σ :=
  DOps.consC fun _ hK => hg _ _ (fun _ hK' => OpX.call ho hc hcal hf ha hd hr hx (by rw [hp]; exact hK')) (hK _ _ h2)
theorem ct {l l1 l2 : List Oper} {Q : St → Prop} {e0 : List (Nat × PV)} {h0 : Heap} (n : Nat) (ks rs : List Nat) (e : List (Nat × PV) → List (Nat × PV))
    (h1 : AOps P G ro N ops l1 σ (fun σ' => Sub G N σ' ⟨e e0, h0, σ.dfr, σ.gh⟩)) (h2 : AOps P G ro N ops l2 ⟨e e0, h0, σ.dfr, σ.gh⟩ Q)
    (he : kenv ks σ.env = e0 := by (simp only [kenv, eget, ↓reduceIte, Nat.reduceEqDiff]; rfl)) (hh : kheap rs σ.heap = h0 := by (simp only [kheap, hget, hget_dyn, hget_dynBH, ↓reduceIte, Nat.reduceEqDiff, Nat.reduceLT]; rfl))
    (hl1 : l.take n = l1 := by (simp only [List.take_succ_cons, List.take_zero]; rfl)) (hl2 : l.drop n = l2 := by (simp only [List.drop_succ_cons, List.drop_zero]; rfl)) : AOps P G ro N ops l σ Q := by
  subst hl1 hl2 he hh; exact AOps.cut n _ h1 h2
theorem sb (h1 : envLe τ.env σ.env := by (repeat' (first | exact trivial | exact rfl | exact dyR rfl | exact dyS rfl | refine heapLe_dyn rfl ?_ | refine heapRefs_dyn ?_ | exact nelF_refs (by repeat' (first | exact trivial | decide | apply And.intro)) | exact dyBR rfl | exact dyBS rfl | refine heapLe_dynBH rfl ?_ | refine heapRefs_dynBH ?_ | exact nelB_refs (by repeat' (first | exact trivial | decide | apply And.intro)) | exact nelB_refs_hole (by repeat' (first | exact trivial | decide | apply And.intro)) (by repeat' (first | exact trivial | exact dyBS rfl | apply And.intro)) | apply And.intro | exact slcl (by (simp only [List.length_append, List.length_set, List.length_replicate, List.length_cons, List.length_nil, Nat.zero_add]; done)))))
    (h2 : heapLe τ.heap σ.heap := by (repeat' (first | exact trivial | exact rfl | exact dyR rfl | exact dyS rfl | refine heapLe_dyn rfl ?_ | refine heapRefs_dyn ?_ | exact nelF_refs (by repeat' (first | exact trivial | decide | apply And.intro)) | exact dyBR rfl | exact dyBS rfl | refine heapLe_dynBH rfl ?_ | refine heapRefs_dynBH ?_ | exact nelB_refs (by repeat' (first | exact trivial | decide | apply And.intro)) | exact nelB_refs_hole (by repeat' (first | exact trivial | decide | apply And.intro)) (by repeat' (first | exact trivial | exact dyBS rfl | apply And.intro)) | exact congrArg (fun els => some (Row.mk _ _ els)) (dl_set_eq rfl) | (simp only [List.length_append, List.length_set, List.length_replicate, List.length_cons, List.length_nil, Nat.zero_add] <;> first | exact rfl | exact dyR rfl | exact dyBR rfl) | apply And.intro)))
    (h3 : envRefs τ.heap τ.env := by (repeat' (first | exact trivial | exact rfl | exact dyR rfl | exact dyS rfl | refine heapLe_dyn rfl ?_ | refine heapRefs_dyn ?_ | exact nelF_refs (by repeat' (first | exact trivial | decide | apply And.intro)) | exact dyBR rfl | exact dyBS rfl | refine heapLe_dynBH rfl ?_ | refine heapRefs_dynBH ?_ | exact nelB_refs (by repeat' (first | exact trivial | decide | apply And.intro)) | exact nelB_refs_hole (by repeat' (first | exact trivial | decide | apply And.intro)) (by repeat' (first | exact trivial | exact dyBS rfl | apply And.intro)) | apply And.intro | (simp only [go_sem, ↓reduceIte]; done))))
    (h4 : heapRefs τ.heap τ.heap := by (repeat' (first | exact trivial | exact row_refs _ _ | exact rfl | exact dyR rfl | exact dyS rfl | refine heapLe_dyn rfl ?_ | refine heapRefs_dyn ?_ | exact nelF_refs (by repeat' (first | exact trivial | decide | apply And.intro)) | exact dyBR rfl | exact dyBS rfl | refine heapLe_dynBH rfl ?_ | refine heapRefs_dynBH ?_ | exact nelB_refs (by repeat' (first | exact trivial | decide | apply And.intro)) | exact nelB_refs_hole (by repeat' (first | exact trivial | decide | apply And.intro)) (by repeat' (first | exact trivial | exact dyBS rfl | apply And.intro)) | apply And.intro | (simp only [go_sem, ↓reduceIte]; done))))
    (h5 : σ.dfr = τ.dfr ∧ refsInL τ.heap τ.dfr ∧ σ.gh = τ.gh := by first | exact ⟨rfl, trivial, rfl⟩ | exact ⟨rfl, (by simp only [go_sem, envL, envLGo, ↓reduceIte]), rfl⟩) : Sub G N σ τ := Sub.mk h1 h2 h3 h4 h5
theorem cd {α : Type} {c : Operand} {x y : Code} {Q : Post} {b : Bool} {m1 m2 : α} {r : α} (h : cond b m1 m2 = r) (h1 : m1 = r → AWp P G ro N x σ Q) (h2 : m2 = r → AWp P G ro N y σ Q) (hc : σ.eval c = .d (.bool b) := by rfl) : AWp P G ro N (.cond c x y) σ Q :=
  AWp.cond hc (fun hb => h1 (by rw [hb] at h; exact h)) (fun hb => h2 (by rw [hb] at h; exact h))
theorem cdt {c : Operand} {x y : Code} {Q : Post} (h1 : AWp P G ro N x σ Q) (hc : σ.eval c = .d (.bool true) := by rfl) : AWp P G ro N (.cond c x y) σ Q := AWp.cond hc (fun _ => h1) (fun hb => by cases hb)
theorem cdf {c : Operand} {x y : Code} {Q : Post} (h1 : AWp P G ro N y σ Q) (hc : σ.eval c = .d (.bool false) := by rfl) : AWp P G ro N (.cond c x y) σ Q := AWp.cond hc (fun hb => by cases hb) (fun _ => h1)
theorem lp {S X : Type} {c : Code} {Q : Post} (ks rs : List Nat) (e : S → List (Nat × PV) → List (Nat × PV)) (H : S → Heap → Heap) {e0 : List (Nat × PV)} {h0 : Heap} {f : S → Option (S ⊕ X)} {s0 : S} {x : X}
    (hi : iter f s0 = some x) (hs : Sub G N σ ⟨e s0 e0, H s0 h0, σ.dfr, σ.gh⟩)
    (h : ∀ s o, f s = some o → AWp P G ro N c ⟨e s e0, H s h0, σ.dfr, σ.gh⟩ (Post.then (fun σ' => ∃ s', o = .inl s' ∧ Sub G N σ' ⟨e s' e0, H s' h0, σ.dfr, σ.gh⟩) (fun ex σ' => ∃ y, o = .inr y ∧ (y = x → Q ex σ'))))
    (he : kenv ks σ.env = e0 := by (simp only [kenv, eget, ↓reduceIte, Nat.reduceEqDiff]; rfl)) (hh : kheap rs σ.heap = h0 := by (simp only [kheap, hget, hget_dyn, hget_dynBH, ↓reduceIte, Nat.reduceEqDiff, Nat.reduceLT]; rfl)) : AWp P G ro N (.loop c) σ Q := by
  obtain ⟨n, hn⟩ := iter_some hi
  refine AWp.loopI (fun i : Nat × S => ⟨e i.2 e0, H i.2 h0, σ.dfr, σ.gh⟩) (fun i => iterN f i.1 i.2 = some x) (fun i => i.1) (n, s0) hn hs ?_
  rintro ⟨n, s⟩ hn
  cases n with
  | zero => cases hn
  | succ n =>
    rw [iterN_succ] at hn
    obtain ⟨o, h1, h2⟩ := bind_some hn
    refine (h s o h1).mono fun ex σ' hp => ?_
    cases ex with
    | normal => obtain ⟨s', rfl, h4⟩ := hp; exact ⟨(n, s'), h2, Nat.lt_succ_self n, h4⟩
    | _ => obtain ⟨y, rfl, h4⟩ := hp; exact h4 (by simpa using h2)
theorem jm {α ι ρ : Type} {x y : Code} {Q : Post} (ks rs : List Nat) (e : ι → List (Nat × PV) → List (Nat × PV)) (H : ι → Heap → Heap) {e0 : List (Nat × PV)} {h0 : Heap} {m : Option α} {f : α → Option ρ} {r : ρ} (inj : ι → α) (h : m.bind f = some r)
    (h1 : ∀ o, m = some o → f o = some r → AWp P G ro N x σ (Post.then (fun σ' => ∃ i, o = inj i ∧ Sub G N σ' ⟨e i e0, H i h0, σ.dfr, σ.gh⟩) Q)) (h2 : ∀ i, f (inj i) = some r → AWp P G ro N y ⟨e i e0, H i h0, σ.dfr, σ.gh⟩ Q)
    (he : kenv ks σ.env = e0 := by (simp only [kenv, eget, ↓reduceIte, Nat.reduceEqDiff]; rfl)) (hh : kheap rs σ.heap = h0 := by (simp only [kheap, hget, hget_dyn, hget_dynBH, ↓reduceIte, Nat.reduceEqDiff, Nat.reduceLT]; rfl)) : AWp P G ro N (.seq x y) σ Q := by
  obtain ⟨o, h3, h4⟩ := bind_some h
  exact AWp.seqI (fun i => ⟨e i e0, H i h0, σ.dfr, σ.gh⟩) (fun i => o = inj i) (h1 o h3 h4) (fun i hi => h2 i (hi ▸ h4))
theorem jn {α ρ : Type} {x y : Code} {Q : Post} (ks rs : List Nat) (e : α → List (Nat × PV) → List (Nat × PV)) (H : α → Heap → Heap) {e0 : List (Nat × PV)} {h0 : Heap} {m : Option α} {f : α → Option ρ} {r : ρ} (h : m.bind f = some r)
    (h1 : ∀ o, m = some o → AWp P G ro N x σ (Post.then (fun σ' => Sub G N σ' ⟨e o e0, H o h0, σ.dfr, σ.gh⟩) Q)) (h2 : ∀ o, f o = some r → AWp P G ro N y ⟨e o e0, H o h0, σ.dfr, σ.gh⟩ Q)
    (he : kenv ks σ.env = e0 := by (simp only [kenv, eget, ↓reduceIte, Nat.reduceEqDiff]; rfl)) (hh : kheap rs σ.heap = h0 := by (simp only [kheap, hget, hget_dyn, hget_dynBH, ↓reduceIte, Nat.reduceEqDiff, Nat.reduceLT]; rfl)) : AWp P G ro N (.seq x y) σ Q :=
  jm ks rs e H id h (fun o h3 _ => (h1 o h3).mono fun ex σ' hp => by cases ex <;> first | exact ⟨o, rfl, hp⟩ | exact hp) h2 he hh
theorem ln {S X : Type} {T : S → St} {p : S} {q : S ⊕ X} (h : some (.inl p) = some q) (hs : Sub G N σ (T p)) : ∃ s', q = .inl s' ∧ Sub G N σ (T s') := ⟨p, (Option.some.inj h).symm, hs⟩
theorem lx {S X : Type} {y x : X} {q : S ⊕ X} {R : Prop} (h : some (.inr y) = some q) (hq : y = x → R) : ∃ y', q = .inr y' ∧ (y' = x → R) := ⟨y, (Option.some.inj h).symm, hq⟩
theorem bt (b : Bool) : b = true ∨ b = false := Bool.eq_false_or_eq_true b
end
end Go.Pv

namespace Go.Pv
open Go.Sort
theorem heap_grow (w : World) (os : Array Obj) {b : Nat} (h : b < w.heap.size) : (grow w os).heap[b]? = w.heap[b]? := by
  simp [grow, Array.getElem?_append, h]
theorem heap_putRow {α : Type} [Inhabited α] (enc : α → Value) (w : World) (blk off : Nat) (d : Array α) (b : Nat) : (putRow enc w blk off d).heap[b]? = if b = blk then (w.heap[b]?).map (onCells (putCells enc off d)) else w.heap[b]? := by
  simp only [putRow, mapBlock, Array.getElem?_modify]
  by_cases h : b = blk
  · subst h; simp
  · simp [h, Ne.symm h]
theorem Sit.putRow {P : Program} {G : List (Nat × PD)} {B : Base P} {w : World} {φ : Nm} {r e : Nat} {g : Gh} {α : Type} [Inhabited α] {enc : α → Value} {pd : α → PD} (hrep : ∀ (w : World) (ok : Nat → Nat → Prop) x, RepD w ok (enc x) (pd x)) (hflat : ∀ x, flat (enc x) = true)
    {L L' : List α} (hro : B.ro = none) (hs : Sit G B w φ [(r, ⟨e, 1, dl (lenc pd L)⟩)] g) (hl : L'.length = L.length) {b : Nat} (hb : φ r = some b) (n : Nat) (os : Array Obj) (hnb : ∀ x, isByte (.d (pd x)) = false := by exact fun _ => rfl) :
    Sit G B (grow (Sort.putRow enc (Sort.ahead w n) b 0 L'.toArray) os) φ [(r, ⟨e, 1, dl (lenc pd L')⟩)] g := by
  have hx : hget ([(r, ⟨e, 1, dl (lenc pd L)⟩)] : Heap) r = some ⟨e, 1, dl (lenc pd L)⟩ := by simp [hget]
  have hr : Rep G B 0 ⟨[], [(r, ⟨e, 1, dl (lenc pd L)⟩)], [], g⟩ { tmps := #[], defers := [] } w φ := by
    refine Rep.of_sit hs rfl (fun t => .any _) ?_
    rw [B.hheld hro]; exact .nil
  have hlt := hr.heap.lt hx hb
  have e1 : grow (Sort.putRow enc (Sort.ahead w n) b 0 L'.toArray) os = Sort.putRow enc (grow (Sort.ahead w n) os) b 0 L'.toArray := (putRow_grow enc (Sort.ahead w n) os b 0 L'.toArray hlt).symm
  rw [e1]
  have hsz : w.heap.size ≤ (grow (Sort.ahead w n) os).heap.size := by simp [grow, Sort.ahead]
  have hold : ∀ c, c < w.heap.size → (grow (Sort.ahead w n) os).heap[c]? = w.heap[c]? := fun c h => heap_grow (Sort.ahead w n) os h
  have hr1 : Rep G B 0 ⟨[], [(r, ⟨e, 1, dl (lenc pd L)⟩)], [], g⟩ { tmps := #[], defers := [] } (grow (Sort.ahead w n) os) φ :=
    hr.world (ext_more hsz hold (fun s x c h1 h2 => hr.heap.lt h1 h2)) ⟨rfl, rfl, rfl, hsz, fun c h _ => hold c h⟩ (fun s x c h1 h2 => hold c (hr.heap.lt h1 h2)) (fun c h _ => hold c h)
  obtain ⟨c, C, z, h1, h2, h3, hz⟩ := (hr1.heap.rows r _ b hx hb).here (Nat.le_refl 1)
  have hz0 : z = 0 := hz.zero_of fun p hp => by simp only [dl, lenc, List.mem_map] at hp; obtain ⟨_, ⟨x, _, rfl⟩, rfl⟩ := hp; exact hnb x
  subst hz0
  have hll : (dl (lenc pd L)).length = L.length := by simp [dl, lenc]
  have hw := hr1.write (hk1 := Nat.le_refl 1) (w' := Sort.putRow enc (grow (Sort.ahead w n) os) b 0 L'.toArray) (c' := putCells enc 0 L'.toArray c) hx hb (els := dl (lenc pd L')) (by simp [dl, lenc, hl]) h1 (by rw [heap_putRow, if_pos rfl, h1]; rfl) (.zero _) (by simp [putCells])
    ⟨rfl, rfl, rfl, by simp, fun k _ hk => by rw [heap_putRow, if_neg hk]⟩ (by simp) (fun i hi => by
      have hi' : i < L'.length := by simpa [dl, lenc] using hi
      have hcs : i < c.size := by
        have := h2.1; have := h2.2.1
        rw [hll] at this
        dsimp only at *
        omega
      refine ⟨enc L'[i], ?_, by rw [flat_cells (hflat _)]; rfl, fun j hj => ?_⟩
      · have e2 : (dl (lenc pd L'))[i] = .d (pd L'[i]) := by simp [dl, lenc]
        rw [e2]; exact .d (hrep _ _ _)
      · have hj0 : j = 0 := by dsimp only at hj; omega
        subst hj0
        rw [flat_cells (hflat _)]
        refine ⟨?_, hflat _⟩
        simp [putCells, Array.getElem?_mapIdx, hcs, hi', Array.getD])
  have e3 : hput ([(r, ⟨e, 1, dl (lenc pd L)⟩)] : Heap) r ⟨e, 1, dl (lenc pd L')⟩ = [(r, ⟨e, 1, dl (lenc pd L')⟩)] := by simp [hput]
  have := hw.sit
  dsimp only at this
  rw [e3] at this
  exact this
theorem Sit.holds {P : Program} {G : List (Nat × PD)} {B : Base P} {w : World} {φ : Nm} {r e : Nat} {g : Gh} {α : Type} [Inhabited α] {enc : α → Value} {pd : α → PD} (hun : ∀ (w : World) (X : Nat → Nat → Prop) (φ : Nm) (H : Heap) v x, RepV w X φ H v (.d (pd x)) → v = enc x) (hflat : ∀ x, flat (enc x) = true)
    {L : List α} (hs : Sit G B w φ [(r, ⟨e, 1, dl (lenc pd L)⟩)] g) {b : Nat} (hb : φ r = some b) (hnb : ∀ x, isByte (.d (pd x)) = false := by exact fun _ => rfl) : Holds enc w b 0 L.toArray ∧ b < w.heap.size := by
  have hx : hget ([(r, ⟨e, 1, dl (lenc pd L)⟩)] : Heap) r = some ⟨e, 1, dl (lenc pd L)⟩ := by simp [hget]
  obtain ⟨c, C, z, h1, h2, h3, hz⟩ := (hs.heap.rows r _ b hx hb).here (Nat.le_refl 1)
  have hz0 : z = 0 := hz.zero_of fun p hp => by simp only [dl, lenc, List.mem_map] at hp; obtain ⟨_, ⟨x, _, rfl⟩, rfl⟩ := hp; exact hnb x
  subst hz0
  refine ⟨fun j hj => ?_, (Array.getElem?_eq_some_iff.1 h1).1⟩
  have hj' : j < L.length := by simpa using hj
  obtain ⟨v, hv, hs1, hv2⟩ := h3 j (by simpa [dl, lenc] using hj')
  have e2 : (dl (lenc pd L))[j]'(by simpa [dl, lenc] using hj') = .d (pd L[j]) := by simp [dl, lenc]
  rw [e2] at hv
  have := hun _ _ _ _ _ _ hv
  subst this
  have hc := (hv2 0 Nat.one_pos).1
  rw [flat_cells (hflat _)] at hc
  have hc : c[j]? = some (enc L[j]) := by simpa [Array.getD] using hc
  refine ⟨?_, ?_⟩
  · simp [World.cell?, h1, hc, hj']
  · simp [World.frozen?, h1]
end Go.Pv

namespace Go.Pv
section
variable {P : Program} {G : List (Nat × PD)} {ro : Option Nat} {N : Nat} {ops : Array Oper} {σ τ σ' : St} {o : Oper} {rest : List Oper}
def HandFn (P : Program) (G : List (Nat × PD)) (f : FuncId) (args : List PV) (i e k : Nat) (l : List PD) (res : PV) (l' : List PD) : Prop :=
  Fn P G f args [(i, ⟨e, k, dl l⟩)] fun p K => p = res ∧ K = [(i, ⟨e, k, dl l'⟩)] ∧ l'.length = l.length
theorem hget1 {i s : Nat} {x y : Row} (h : hget [(i, x)] s = some y) : s = i ∧ y = x := by
  simp only [hget] at h
  split at h
  · rename_i e; simp only [Option.some.injEq] at h; exact ⟨e.symm, h.symm⟩
  · cases h
theorem clH {f : FuncId} {c : Call} {xo : Operand} {args : List PV} {res : PV} {i e k : Nat} {l l' : List PD} {Q : St → Prop} (r : Nat) (hf : HandFn P G f args i e k l res l') (h2 : AOps P G ro N ops rest σ' Q)
    (hd : dstOk N o.dst := by (simp only [go_sem, ↓reduceIte]; done)) (hg : ∀ {K : St → Prop}, OpT P G ro N o σ K → vcOpC P G ro N (dsts ops) o σ K := by (intro K k; simp (disch := omega) only [go_sem, ↓reduceIte]; exact k))
    (ho : o.op = .call c := by rfl) (hc : c.callee = .value xo := by rfl) (hx : calleeV (σ.eval xo) = some (f, []) := by rfl) (hcal : callable P f = true := by kernel_rfl) (hi : i < 1000 := by decide)
    (hrow : hget σ.heap r = some ⟨e, k, dl l⟩ := by rfl)
    (ha : handsOk σ.heap [(i, ⟨e, k, dl l⟩)] (fun _ => r) (evalL σ c.args.toList) args := by (repeat' (first | exact trivial | exact rfl | apply And.intro | exact slcl (by (simp only [lenc_length, List.length_append, List.length_set, List.length_replicate, List.length_cons, List.length_nil, Nat.zero_add]; done)) | (simp only [go_sem, ↓reduceIte]; done))))
    (hp : ({ σ with heap := hput σ.heap r ⟨e, k, dl l'⟩ } : St).put o.dst (res.ren fun _ => r) = σ' := by (simp only [go_sem, ↓reduceIte]; rfl)) (hcl : clean res := by (simp only [clean, cleanL, and_self]; done)) (hrf : refsIn [(i, ⟨e, k, dl l'⟩)] res := by (first | exact trivial | exact rfl | (simp only [go_sem, ↓reduceIte]; done))) :
    AOps P G ro N ops (o :: rest) σ Q := by
  refine AOps.consC hd fun K hK => hg ?_
  refine OpT.callG (H := [(i, ⟨e, k, dl l⟩)]) (g := fun _ => r) (gc := none) ho hc hx hcal hf ⟨fun s x h => ?_, fun s x h => ?_, fun s t x y h h' _ => ?_, fun s x h => ?_⟩ (.inl rfl) (by rw [List.append_nil]; exact ha) hd ?_
  · rw [(hget1 h).1]; exact hi
  · rw [(hget1 h).2, hrow]; simp only [Row.ren, dl_ren]
  · rw [(hget1 h).1, (hget1 h').1]
  · rw [(hget1 h).2]; exact row_refs _ _
  · rintro p H' g' ⟨rfl, rfl, hlen⟩
    refine ⟨fun _ => r, ⟨fun s x h _ => ?_, fun s x h => ?_, fun s x h hs => ?_, fun s t x y h h' _ => ?_, fun s x h => ?_⟩, hcl, hrf, ?_⟩
    · obtain ⟨rfl, rfl⟩ := hget1 h
      exact ⟨⟨e, k, dl l⟩, by simp [hget], rfl, rfl, by simp [dl, hlen]⟩
    · obtain ⟨rfl, rfl⟩ := hget1 h
      exact ⟨_, by simp [hget]; rfl⟩
    · have := (hget1 h).1; omega
    · rw [(hget1 h).1, (hget1 h').1]
    · rw [(hget1 h).2]; exact ⟨row_refs _ _, by rw [dl_clean]; trivial⟩
    · simp only [hmerge, Row.ren, dl_ren, ghBack]
      exact hp ▸ hK _ h2
def NewFn (P : Program) (G : List (Nat × PD)) (f : FuncId) (args : List PV) (res : Nat → PV) (e k : Nat) (l : List PD) : Prop :=
  Fn P G f args [] fun p K => ∃ q, 1000 ≤ q ∧ p = res q ∧ K = [(q, ⟨e, k, dl l⟩)]
theorem NewFn.pf {f : FuncId} {fn : Func} {c : Code} {args : List PV} {n : Nat} {e0 : List (Nat × PV)} {res : Nat → PV} {e k : Nat} {l : List PD} (hf : P.funcs[f]? = some fn) (hn : fn.ntmps = n)
    (h : AWp P G none n c ⟨e0, [], [], none⟩ (Fin P G fn fun p K => ∃ q, 1000 ≤ q ∧ p = res q ∧ hget K q = some ⟨e, k, dl l⟩)) (hb : fn.body = some c := by rfl) (hN : args.length ≤ n := by simp)
    (he : argEnv 0 args = e0 := by (simp only [argEnv, Nat.reduceAdd, Nat.zero_add]; rfl)) (hrf : ∀ q x, refsIn [(q, x)] (res q) := by (intro q x; simp only [go_sem, hget, ↓reduceIte, Option.isSome_some]; done)) : NewFn P G f args res e k l := by
  subst hn he
  intro B φ vs h0 h1 h2 h3
  refine (Fn.intro hf hb hN h B φ vs h0 h1 h2 h3).mono ?_
  rintro e' w' ⟨v, p, H', g', φ', he, ⟨q, hq, rfl, hg⟩, hv, hs⟩
  have hle : ∀ r x, hget [(q, (⟨e, k, dl l⟩ : Row))] r = some x → hget H' r = some x := fun r x hx => by
    obtain ⟨rfl, rfl⟩ := hget1 hx; exact hg
  exact ⟨v, _, [(q, ⟨e, k, dl l⟩)], g', φ', he, ⟨q, hq, rfl, rfl⟩, hv.less hle (hrf q _), hs.less hle (fun r x hx => by rw [(hget1 hx).2]; exact row_refs _ _)⟩
end
end Go.Pv

namespace Go.Pv
@[irreducible] def sortI (l : List Int) : List Int := l.mergeSort fun x y => decide (x ≤ y)
@[irreducible] def compactI (l : List Int) : List Int := Go.Lib.compact l
@[go_sem] theorem sortI_length (l : List Int) : (sortI l).length = l.length := by unfold sortI; exact List.length_mergeSort l
end Go.Pv

namespace Go.Pv
section
variable {P : Program} {G : List (Nat × PD)} {ro : Option Nat} {N : Nat} {σ : St} {o : Oper} {K : St → Prop}
theorem hput_self : ∀ {H : Heap} {r : Nat} {x : Row}, hget H r = some x → hput H r x = H
  | [], _, _, h => by simp [hget] at h
  | (s, y) :: l, r, x, h => by
    simp only [hget] at h
    simp only [hput]
    split at h
    · rename_i e; simp only [Option.some.injEq] at h; subst h; rw [if_pos e, e]
    · rename_i e; rw [if_neg e, hput_self h]
theorem three {k n m : Nat} {cur news : List Value} (h1 : n * k ≤ cur.length) (h2 : news.length = m * k) (i j : Nat) (hj : j < k) :
    (cur.take (n * k) ++ news ++ cur.drop (n * k + news.length))[i * k + j]? = if i < n then cur[i * k + j]? else if i < n + m then news[(i - n) * k + j]? else cur[i * k + j]? := by
  have hl : (cur.take (n * k)).length = n * k := by simp; omega
  by_cases hi : i < n
  · rw [if_pos hi]
    have hm := Nat.mul_le_mul_right k (show i + 1 ≤ n from hi)
    rw [Nat.add_mul, Nat.one_mul] at hm
    rw [List.append_assoc, List.getElem?_append_left (by omega), List.getElem?_take, if_pos (by omega)]
  · rw [if_neg hi]
    have hge := Nat.mul_le_mul_right k (show n ≤ i by omega)
    by_cases hi2 : i < n + m
    · rw [if_pos hi2]
      have hm := Nat.mul_le_mul_right k (show i - n + 1 ≤ m by omega)
      rw [Nat.add_mul, Nat.one_mul] at hm
      have hsub : (i - n) * k = i * k - n * k := Nat.sub_mul _ _ _
      rw [List.append_assoc, List.getElem?_append_right (by omega), hl, List.getElem?_append_left (by omega)]
      congr 1; omega
    · rw [if_neg hi2]
      have hm := Nat.mul_le_mul_right k (show n + m ≤ i by omega)
      rw [Nat.add_mul] at hm
      rw [List.getElem?_append_right (by simp only [List.length_append, hl]; omega), List.getElem?_drop]
      congr 1
      simp only [List.length_append, hl]; omega
theorem headOk.over {z n : Nat} {l m : List PV} (h : headOk z l) (hn : z ≤ n) {k : Nat} : headOk z (l.take n ++ m ++ l.drop k) := fun i hi => by
  obtain ⟨p, h1, h2⟩ := h i hi
  have hl := (List.getElem?_eq_some_iff.1 h1).1
  exact ⟨p, by rw [List.append_assoc, List.getElem?_append_left (by simp; omega), List.getElem?_take, if_pos (by omega)]; exact h1, h2⟩
theorem headOk.zero_first {z : Nat} {l : List PV} (h : headOk z l) (hn : ∀ p, l[0]? = some p → isByte p = false) : z = 0 := by
  rcases Nat.eq_zero_or_pos z with rfl | hz
  · rfl
  · obtain ⟨p, h1, h2⟩ := h 0 hz
    rw [hn p h1] at h2; cases h2
theorem headOk.of_first {z n : Nat} {l : List PV} (h : headOk z l) (hn : ∀ p, l[0]? = some p → isByte p = false) (_ : 0 ≤ n) : z ≤ n := by
  rw [h.zero_first hn]; exact Nat.zero_le _
theorem first_dl {α : Type} {f : α → PD} {L : List α} (h : ∀ x, isByte (.d (f x)) = false) : ∀ p, (dl (lenc f L))[0]? = some p → isByte p = false := fun p hp => by
  cases L with
  | nil => simp [dl, lenc] at hp
  | cons x L => simp [dl, lenc] at hp; rw [← hp]; exact h x
theorem Rep.over {B : Base P} {a : Act} {w : World} {φ : Nm} (hr : Rep G B N σ a w φ) {r b : Nat} {x : Row} (hx : hget σ.heap r = some x) (hb : φ r = some b) (hk1 : 1 ≤ x.k) {cur : Array Value} {zf : Nat} (hc : w.heap[b]? = some (.cells cur x.e (0, zf))) {n : Nat} (hzf : headOk zf x.els) (hzn : zf ≤ n) {L : List PV} {news : List Value}
    (hn : n + L.length ≤ x.els.length) (hl : news.length = L.length * x.k)
    (hL : ∀ i (hi : i < L.length), ∃ v, RepV w B.X φ σ.heap v L[i] ∧ v.cells.size = x.k ∧ ∀ j, j < x.k → news[i * x.k + j]? = some (v.cells.getD j undef) ∧ flat (v.cells.getD j undef) = true) :
    Rep G B N { σ with heap := hput σ.heap r { x with els := x.els.take n ++ L ++ x.els.drop (n + L.length) } } a (w.setRow b (cur.toList.take (n * x.k) ++ news ++ cur.toList.drop (n * x.k + news.length)).toArray) φ := by
  obtain ⟨c, C, _, h1, h2, h3, _⟩ := (hr.heap.rows r x b hx hb).here hk1
  rw [hc] at h1; simp only [Option.some.injEq, Obj.cells.injEq, true_and, Prod.mk.injEq] at h1; obtain ⟨rfl, -⟩ := h1
  have hCm := Nat.mul_le_mul_right x.k (show n + L.length ≤ C by have := h2.2.1; omega)
  rw [Nat.add_mul] at hCm
  have hcl : cur.toList.length = C * x.k := by simpa using h2.1
  refine hr.write hx hb hk1 (by simp; omega) hc (setRow_heap w b cur _ x.e _ hc) (hzf.over hzn) (by simp; omega) ⟨rfl, rfl, rfl, by simp, fun y _ hy => setRow_other w b y _ hy⟩ (size_setRow _ _ _) fun i hi => ?_
  have hi' : i < x.els.length := by simp at hi; omega
  have hcell : ∀ j, j < x.k → (cur.toList.take (n * x.k) ++ news ++ cur.toList.drop (n * x.k + news.length)).toArray[i * x.k + j]? = if i < n then cur[i * x.k + j]? else if i < n + L.length then news[(i - n) * x.k + j]? else cur[i * x.k + j]? := fun j hj => by
    have := three (k := x.k) (n := n) (m := L.length) (cur := cur.toList) (news := news) (by omega) hl i j hj
    simpa using this
  by_cases hin : i < n
  · obtain ⟨v, h4, h5, h6⟩ := h3 i hi'
    refine ⟨v, ?_, h5, fun j hj => ⟨?_, (h6 j hj).2⟩⟩
    · have e : (x.els.take n ++ L ++ x.els.drop (n + L.length))[i] = x.els[i] := by
        rw [List.getElem_append_left (by simp; omega), List.getElem_append_left (by simp; omega)]; simp
      rw [e]; exact h4
    · rw [hcell j hj, if_pos hin]; exact (h6 j hj).1
  · by_cases hin2 : i < n + L.length
    · obtain ⟨v, h4, h5, h6⟩ := hL (i - n) (by omega)
      refine ⟨v, ?_, h5, fun j hj => ⟨?_, (h6 j hj).2⟩⟩
      · have e : (x.els.take n ++ L ++ x.els.drop (n + L.length))[i] = L[i - n]'(by omega) := by
          rw [List.getElem_append_left (by simp; omega), List.getElem_append_right (by simp; omega)]
          congr 1; simp; omega
        rw [e]; exact h4
      · rw [hcell j hj, if_neg hin, if_pos hin2]; exact (h6 j hj).1
    · obtain ⟨v, h4, h5, h6⟩ := h3 i hi'
      refine ⟨v, ?_, h5, fun j hj => ⟨?_, (h6 j hj).2⟩⟩
      · have e : (x.els.take n ++ L ++ x.els.drop (n + L.length))[i] = x.els[i] := by
          rw [List.getElem_append_right (by simp; omega), List.getElem_drop]
          congr 1; simp; omega
        rw [e]; exact h4
      · rw [hcell j hj, if_neg hin, if_neg hin2]; exact (h6 j hj).1
theorem OpT.appendIn {s x : Operand} {t e : TypeId} {y z : Ty} {r n : Nat} {row : Row} {L : List PV} (ho : o.op = .call { callee := .builtin .append, args := #[s, x], argTypes := #[t, t] })
    (ht : tyOf P t = some y) (hde : y.desc = .slice e) (he : tyOf P e = some z) (hk : 1 ≤ z.size)
    (hs : σ.eval s = .slc r 0 n) (hx : hget σ.heap r = some row) (hre : row.e = e) (hrk : row.k = z.size)
    (hsrc : srcV z.size σ.heap (σ.eval x) = some L) (hle : n + L.length ≤ row.els.length) (hd : dstOk N o.dst) (hnb : ∀ p, row.els[0]? = some p → isByte p = false := by exact first_dl (fun _ => rfl))
    (hK : K (({ σ with heap := hput σ.heap r { row with els := row.els.take n ++ L ++ row.els.drop (n + L.length) } } : St).put o.dst (.slc r 0 (n + L.length)))) : OpT P G ro N o σ K := by
  intro B hro a w φ hr next Q hnx
  have hsv := hr.eval s
  rw [hs] at hsv
  have hxv := srcV_ok hr hsrc (hr.eval x)
  have hop : ∀ v' w', (Builtin.append_ #[t, t] o.type #[a.eval s, a.eval x]).run P w = .ok v' w' → (o.semAt ro a.eval).run P w = .ok (.value v') w' := by
    intro v' w' h
    rw [Oper.semAt_eq _ _ _ (fun c hc => by rw [ho] at hc; cases hc)]
    simp only [execOp, ho, resolve, invoke, builtin, Sem.run_bind, Sem.run_pure, Result.andThen_ok, List.map_toArray, List.map_cons, List.map_nil, h]
  obtain ⟨hu, it, hit, hs1, hs2, hs3⟩ := tyOf_parts he
  have hut : P.underlying t = some (.slice e) := by rw [(tyOf_parts ht).1, hde]
  by_cases hL : L = []
  · subst hL
    have hself : hput σ.heap r { row with els := row.els.take n ++ [] ++ row.els.drop (n + ([] : List PV).length) } = σ.heap := by
      have : row.els.take n ++ [] ++ row.els.drop (n + ([] : List PV).length) = row.els := by simp
      rw [this]; exact hput_self hx
    rw [hself] at hK
    have hrun : (Builtin.append_ #[t, t] o.type #[a.eval s, a.eval x]).run P w = .ok (a.eval s) w := by
      have hc : ∃ b cap, a.eval s = .slice b n cap ∧ n ≤ cap := by
        rcases repV_slc hsv with ⟨⟨p0, h1, _⟩, _, h2, _⟩ | ⟨_, _, cap, h1, _, _, _, h2, _⟩
        · exact ⟨p0, 0, by rw [h1, h2], by omega⟩
        · exact ⟨_, cap, h1, h2⟩
      obtain ⟨b, cap, hc1, hc2⟩ := hc
      have hx0 : ∃ p c, a.eval x = .slice p 0 c := by
        rcases hxv with ⟨⟨p, h⟩, _⟩ | ⟨p, c, h, _⟩
        · exact ⟨p, 0, h⟩
        · exact ⟨some p, c, h⟩
      obtain ⟨p, c, hx0⟩ := hx0
      rw [hc1, hx0]
      cases b <;> cases p <;> simp [Builtin.append_, run_underlying hut, sizeOf, typeInfo, hit, Builtin.lenOf, Builtin.firstCells, loadCells, loadCellsFrom, storeCells, hc2]
    exact wpIn_value (hop _ _ hrun) (hnx _ _ _ φ hK (hr.put hd hsv))
  · have hm : 1 ≤ L.length := List.length_pos_iff.2 hL
    rcases hxv with ⟨_, h⟩ | ⟨p, c, hxe, hrow⟩
    · exact absurd h hL
    obtain ⟨news, hnw⟩ : ∃ news, news = (List.range (L.length * z.size)).map fun q => (w.cell? (p.add q)).getD undef := ⟨_, rfl⟩
    have hnl : news.length = L.length * z.size := by rw [hnw]; simp
    have hdiv : ∀ q, q < L.length * z.size → ∃ i j, i < L.length ∧ j < z.size ∧ q = i * z.size + j := fun q hq => ⟨q / z.size, q % z.size, Nat.div_lt_of_lt_mul (by rw [Nat.mul_comm]; exact hq), Nat.mod_lt _ hk, by rw [Nat.mul_comm]; exact (Nat.div_add_mod q z.size).symm⟩
    have hcell : ∀ q, q < L.length * z.size → ∃ u, w.cell? (p.add q) = some u ∧ flat u = true := fun q hq => by
      obtain ⟨i, j, hi, hj, rfl⟩ := hdiv q hq
      obtain ⟨v, _, _, h3⟩ := hrow i hi
      exact ⟨_, (h3 j hj).1, (h3 j hj).2⟩
    have hng : ∀ q, q < L.length * z.size → news[q]? = w.cell? (p.add q) := fun q hq => by
      obtain ⟨u, hu, _⟩ := hcell q hq
      rw [hnw]; simp [hq, hu]
    have hne : ∀ j u, news[j]? = some u → w.cell? (p.add j) = some u := fun j u hj => by
      have hlt : j < L.length * z.size := by rw [← hnl]; exact (List.getElem?_eq_some_iff.1 hj).1
      rw [← hng j hlt]; exact hj
    have hnf : ∀ u ∈ news, flat u = true := fun u hu => by
      obtain ⟨j, hj, rfl⟩ := List.getElem_of_mem hu
      obtain ⟨u', h1, h2⟩ := hcell j (hnl ▸ hj)
      have := hng j (hnl ▸ hj)
      rw [List.getElem?_eq_getElem hj, h1] at this
      simp only [Option.some.injEq] at this
      rw [this]; exact h2
    rcases repV_slc hsv with ⟨_, _, h4, h5, _⟩ | ⟨x2, b, cap, h3, hx2, hb, hn, hc, hl, hzz⟩
    · have := hr.heap.void r row hx h5
      rw [this] at hle; simp at hle; exact absurd hle.2 hL
    · rw [hx] at hx2; simp only [Option.some.injEq] at hx2; subst hx2
      obtain ⟨cur, C, zf, h1, h2, h3', hzf⟩ := (hr.heap.rows r row b hx hb).here (repV_slc_pos hsv hx)
      have hsz := hzz _ _ _ h1
      rw [Nat.zero_add] at hsz hl
      have hfit : n * it.size + news.length ≤ cur.size := by
        rw [hnl, hs1, ← Nat.add_mul, hsz, hrk]; exact Nat.mul_le_mul_right _ (by omega)
      have hrun := run_append_roomF (P := P) w t o.type e it hut hit b n cap cur (0, zf) (by rw [← hre]; exact h1) (by rw [(hzf.zero_first hnb)]; exact Nat.zero_le _) p L.length c news (by rw [hs1]; exact hnl) hne hnf (by omega) hfit
      have hrep := hr.over hx hb (repV_slc_pos hsv hx) h1 hzf (hzf.of_first hnb (by omega)) hle (by rw [hrk]; exact hnl) (fun i hi => by
        obtain ⟨v, h4, h5, h6⟩ := hrow i hi
        refine ⟨v, h4, by rw [hrk]; exact h5, fun j hj => ?_⟩
        rw [hrk] at hj ⊢
        have hm2 := Nat.mul_le_mul_right z.size (show i + 1 ≤ L.length from hi)
        rw [Nat.add_mul, Nat.one_mul] at hm2
        rw [hng (i * z.size + j) (by omega)]
        exact h6 j hj)
      have e0 : a.eval s = .slice (some ⟨b, 0, none⟩) n cap := by rw [h3, Nat.zero_mul]
      rw [← e0, ← hxe, hs1, ← hrk] at hrun
      refine wpIn_value (hop _ _ hrun) (hnx _ _ _ φ hK (hrep.put hd ?_))
      have hlen : (row.els.take n ++ L ++ row.els.drop (n + L.length)).length = row.els.length := by simp; omega
      have := RepV.slc (w := w.setRow b (cur.toList.take (n * row.k) ++ news ++ cur.toList.drop (n * row.k + news.length)).toArray) (X := B.X) (φ := φ) (H := hput σ.heap r { row with els := row.els.take n ++ L ++ row.els.drop (n + L.length) }) (r := r) (lo := 0) (n := n + L.length) (cap := cap) (b := b)
        (x := { row with els := row.els.take n ++ L ++ row.els.drop (n + L.length) }) (by rw [hget_hput, if_pos rfl]) hb (by have := repV_slc_pos hsv hx; exact this) (by dsimp only; omega) (by omega) (by dsimp only; omega) (fun c0 e1 f0 hh => by
          rw [setRow_heap w b cur _ row.e _ h1] at hh
          simp only [Option.some.injEq, Obj.cells.injEq] at hh
          rw [← hh.1, Nat.zero_add]
          dsimp only
          have hfit' : n * row.k + news.length ≤ cur.size := by rw [hrk, ← hs1]; exact hfit
          simp only [List.size_toArray, List.length_append, List.length_take, List.length_drop, Array.length_toList]
          omega)
      rw [Nat.zero_mul] at this
      exact this
theorem OpT.clear {s : Operand} {t e : TypeId} {y z : Ty} {zv : Value} {zp : PV} {r lo n : Nat} {row : Row} (ho : o.op = .call { callee := .builtin .clear, args := #[s], argTypes := #[t] })
    (ht : tyOf P t = some y) (hde : y.desc = .slice e) (he : tyOf P e = some z) (hz : z.zero = some zv) (hzp : ofZero zv = some zp) (hzs : zv.cells.size = z.size) (hk : 1 ≤ z.size)
    (hs : σ.eval s = .slc r lo n) (hx : hget σ.heap r = some row) (hrk : row.k = z.size) (hdst : o.dst = none) (hnb : ∀ p, row.els[0]? = some p → isByte p = false := by exact first_dl (fun _ => rfl))
    (hK : K { σ with heap := hput σ.heap r { row with els := row.els.take lo ++ List.replicate n zp ++ row.els.drop (lo + n) } }) : OpT P G ro N o σ K := by
  intro B hro a w φ hr next Q hnx
  have hsv := hr.eval s
  rw [hs] at hsv
  obtain ⟨hu, it, hit, hs1, hs2, hs3⟩ := tyOf_parts he
  have hut : P.underlying t = some (.slice e) := by rw [(tyOf_parts ht).1, hde]
  have hop : ∀ v' w', (Builtin.clear_ #[t] o.type #[a.eval s]).run P w = .ok v' w' → (o.semAt ro a.eval).run P w = .ok (.value v') w' := by
    intro v' w' h
    rw [Oper.semAt_eq _ _ _ (fun c hc => by rw [ho] at hc; cases hc)]
    simp only [execOp, ho, resolve, invoke, builtin, Sem.run_bind, Sem.run_pure, Result.andThen_ok, List.map_toArray, List.map_cons, List.map_nil, h]
  have hput0 : ∀ {τ : St} {w' : World} {u : Value}, Rep G B N τ a w' φ → Rep G B N τ (a.put o.dst u) w' φ := fun h => by rw [hdst]; exact h
  by_cases hn0 : n = 0
  · subst hn0
    have hself : hput σ.heap r { row with els := row.els.take lo ++ List.replicate 0 zp ++ row.els.drop (lo + 0) } = σ.heap := by
      have : row.els.take lo ++ List.replicate 0 zp ++ row.els.drop (lo + 0) = row.els := by simp
      rw [this]; exact hput_self hx
    rw [hself] at hK
    have hrun : (Builtin.clear_ #[t] o.type #[a.eval s]).run P w = .ok (.tuple #[]) w := by
      rcases repV_slc hsv with ⟨⟨p0, h1, _⟩, _⟩ | ⟨_, _, cap, h1, _⟩
      · rw [h1]; cases p0 <;> simp [Builtin.clear_, run_underlying hut]
      · rw [h1]; simp [Builtin.clear_, run_underlying hut]
    exact wpIn_value (hop _ _ hrun) (hnx _ _ _ φ hK (hput0 hr))
  · rcases repV_slc hsv with ⟨_, _, h4, _⟩ | ⟨x2, b, cap, h3, hx2, hb, hn, hc, hl, hzz⟩
    · exact absurd h4 hn0
    · rw [hx] at hx2; simp only [Option.some.injEq] at hx2; subst hx2
      obtain ⟨cur, C, zf, h1, h2, h3', hzf⟩ := (hr.heap.rows r row b hx hb).here (repV_slc_pos hsv hx)
      have hsz := hzz _ _ _ h1
      obtain ⟨hz1, hz2⟩ := ofZero_ok (w := w) (X := B.X) (φ := φ) (H := σ.heap) hzp
      obtain ⟨news, hnw⟩ : ∃ news, news = (madeCells zv.cells (n * z.size)).toList := ⟨_, rfl⟩
      have hnl : news.length = n * z.size := by rw [hnw]; simp [size_madeCells]
      have hng : ∀ i j, i < n → j < z.size → news[i * z.size + j]? = some (zv.cells.getD j undef) := fun i j hi hj => by
        rw [hnw]
        have := madeCells_get (z := zv.cells) (k := z.size) (n := n) (i := i) (j := j) hzs hj hi
        simpa using this
      have hnf : ∀ u ∈ news, u.oneCell' = true := fun u hu => by
        obtain ⟨q, hq, rfl⟩ := List.getElem_of_mem hu
        have hq' : q < n * z.size := hnl ▸ hq
        have e1 := hng (q / z.size) (q % z.size) (Nat.div_lt_of_lt_mul (by rw [Nat.mul_comm]; exact hq')) (Nat.mod_lt _ hk)
        rw [show q / z.size * z.size + q % z.size = q by rw [Nat.mul_comm]; exact Nat.div_add_mod q z.size, List.getElem?_eq_getElem hq, Option.some.injEq] at e1
        rw [e1]; exact hz2 _ (by rw [hzs]; exact Nat.mod_lt _ hk)
      have hzc : (Builtin.zeroCells zv.cells n).toList = news := by
        rw [hnw]; simp [Builtin.zeroCells, madeCells, hzs]
      have hfit : lo * row.k + news.length ≤ cur.size := by
        rw [hnl, hrk, ← Nat.add_mul, hsz, hrk]; exact Nat.mul_le_mul_right _ (by omega)
      have hst := run_storeCells_atF P b (lo * row.k) row.e (0, zf) news 0 cur w h1 (by rw [(hzf.zero_first hnb)]; exact Nat.zero_le _) (by simpa using hfit) hnf
      simp only [Nat.add_zero] at hst
      have hrun : (Builtin.clear_ #[t] o.type #[a.eval s]).run P w = .ok (.tuple #[]) (w.setRow b (cur.toList.take (lo * row.k) ++ news ++ cur.toList.drop (lo * row.k + news.length)).toArray) := by
        obtain ⟨m, rfl⟩ : ∃ m, n = m + 1 := ⟨n - 1, by omega⟩
        rw [h3]
        have hzr := run_tyZero he hz
        simp [Builtin.clear_, run_underlying hut, hzr, hzc, hst]
      have hrep := hr.over hx hb (repV_slc_pos hsv hx) h1 hzf (hzf.of_first hnb (by omega)) (n := lo) (L := List.replicate n zp) (news := news) (by simpa using hn) (by rw [hrk]; simpa using hnl) (fun i hi => by
        have hi' : i < n := by simpa using hi
        refine ⟨zv, by simpa using hz1, by rw [hrk]; exact hzs, fun j hj => ?_⟩
        rw [hrk] at hj ⊢
        exact ⟨hng i j hi' hj, hz2 j (by rw [hzs]; exact hj)⟩)
      rw [List.length_replicate] at hrep
      exact wpIn_value (hop _ _ hrun) (hnx _ _ _ φ hK (hput0 hrep))
theorem run_bound {P : Program} {w : World} {k : IntKind} {n : Int} {y : Nat} (h0 : 0 ≤ n) (h1 : n ≤ y) (c : BoundsCode) : (Instr.sliceBound (.int k n) y c).run P w = .ok n.toNat w := by
  simp [Instr.sliceBound, asIntOf, h0, h1]
theorem OpT.slice3 {x lo hi mx : Operand} {t e : TypeId} {y z : Ty} {r l0 n : Nat} {k1 k2 k3 : IntKind} {a1 b1 c1 : Int} (ho : o.op = .slice t x (some lo) (some hi) (some mx)) (ht : tyOf P t = some y) (hde : y.desc = .slice e) (he : tyOf P e = some z)
    (hx : σ.eval x = .slc r l0 n) (h1 : σ.eval lo = .d (.int k1 a1)) (h2 : σ.eval hi = .d (.int k2 b1)) (h3 : σ.eval mx = .d (.int k3 c1)) (h4 : 0 ≤ a1) (h5 : a1 ≤ b1) (h6 : b1 ≤ c1) (h7 : c1 ≤ n) (hd : dstOk N o.dst) (hK : K (σ.put o.dst .any)) : OpT P G ro N o σ K := by
  intro B hro a w φ hr next Q hnx
  have hv := hr.eval x
  rw [hx] at hv
  have v1 := hr.eval lo; rw [h1] at v1
  have v2 := hr.eval hi; rw [h2] at v2
  have v3 := hr.eval mx; rw [h3] at v3
  have hs : ∃ p cap, a.eval x = .slice p n cap ∧ n ≤ cap := by
    rcases repV_slc hv with ⟨⟨p, e1, _⟩, _, e2, _⟩ | ⟨_, _, cap, e1, _, _, _, e2, _⟩
    · exact ⟨p, 0, by rw [e1, e2], by omega⟩
    · exact ⟨_, cap, e1, e2⟩
  obtain ⟨p, cap, e1, e2⟩ := hs
  have hrun : ∃ u, (Instr.sliceAt t (a.eval x) (some (a.eval lo)) (some (a.eval hi)) (some (a.eval mx))).run P w = .ok u w := by
    rw [e1, repV_int v1, repV_int v2, repV_int v3]
    refine ⟨.slice (if c1.toNat = a1.toNat then p else p.map (·.add (a1.toNat * z.size))) (b1.toNat - a1.toNat) (c1.toNat - a1.toNat), by
      simp only [Instr.sliceAt, Sem.run_bind, run_tyUnder ht, Result.andThen, hde, Instr.slice, Instr.sliceBounds, Option.isSome_some, if_true, run_bound (k := k3) (n := c1) (y := cap) (by omega) (by omega), run_bound (k := k2) (n := b1) (y := c1.toNat) (by omega) (by omega), run_bound (k := k1) (n := a1) (y := b1.toNat) (by omega) (by omega), Sem.run_pure, run_tySize he]⟩
  obtain ⟨u, hu⟩ := hrun
  refine wpIn_value (u := u) ?_ (hnx _ _ _ φ hK (hr.put hd (.any u)))
  rw [Oper.semAt_eq _ _ _ (fun c hc => by rw [ho] at hc; cases hc)]
  simp only [execOp, ho, Option.map_some]
  exact run_v hu
theorem OpT.sliceIn {x lo hi : Operand} {t e : TypeId} {y z : Ty} {r n : Nat} {row : Row} {k1 k2 : IntKind} {a1 b1 : Nat} (ho : o.op = .slice t x (some lo) (some hi) none) (ht : tyOf P t = some y) (hde : y.desc = .slice e) (he : tyOf P e = some z)
    (hx : σ.eval x = .slc r 0 n) (hrow : hget σ.heap r = some row) (hrk : row.k = z.size) (h1 : σ.eval lo = .d (.int k1 a1)) (h2 : σ.eval hi = .d (.int k2 b1)) (h5 : a1 ≤ b1) (h6 : b1 ≤ row.els.length) (h7 : a1 < row.els.length) (hd : dstOk N o.dst)
    (hK : K (σ.put o.dst (.slc r a1 (b1 - a1)))) : OpT P G ro N o σ K := by
  intro B hro a w φ hr next Q hnx
  have hv := hr.eval x
  rw [hx] at hv
  have v1 := hr.eval lo; rw [h1] at v1
  have v2 := hr.eval hi; rw [h2] at v2
  rcases repV_slc hv with ⟨_, _, _, e3, _⟩ | ⟨x2, b, cap, e1, e2, e3, e4, e5, e6, e7⟩
  · have := hr.heap.void r row hrow e3
    rw [this] at h7; simp at h7
  · rw [hrow] at e2; simp only [Option.some.injEq] at e2; subst e2
    rw [Nat.zero_add] at e6
    have hrun : (Instr.sliceAt t (a.eval x) (some (a.eval lo)) (some (a.eval hi)) none).run P w = .ok (.slice (some ⟨b, a1 * row.k, none⟩) (b1 - a1) (cap - a1)) w := by
      rw [e1, repV_int v1, repV_int v2]
      simp only [Instr.sliceAt, Sem.run_bind, run_tyUnder ht, Result.andThen, hde, Instr.slice, Instr.sliceBounds, Option.isSome_none, if_true, run_bound (k := k2) (n := (b1 : Int)) (y := cap) (by omega) (by omega), run_bound (k := k1) (n := (a1 : Int)) (y := b1) (by omega) (by omega), Sem.run_pure, run_tySize he, Int.toNat_natCast, Bool.false_eq_true, if_false]
      rw [if_neg (by omega), Option.map_some, add_eq, Nat.zero_mul, Nat.zero_add, hrk]
    refine wpIn_value (u := .slice (some ⟨b, a1 * row.k, none⟩) (b1 - a1) (cap - a1)) ?_ (hnx _ _ _ φ hK (hr.put hd (.slc hrow e3 (repV_slc_pos hv hrow) (by omega) (by omega) (by omega) fun c e f hh => ?_)))
    · rw [Oper.semAt_eq _ _ _ (fun c hc => by rw [ho] at hc; cases hc)]
      simp only [execOp, ho, Option.map_some, Option.map_none]
      exact run_v hrun
    · rw [e7 c e f hh]; congr 1; omega
theorem OpT.sliceEnd {x lo : Operand} {t e : TypeId} {y z : Ty} {r l0 n : Nat} {k1 : IntKind} (ho : o.op = .slice t x (some lo) none none) (ht : tyOf P t = some y) (hde : y.desc = .slice e) (he : tyOf P e = some z)
    (hx : σ.eval x = .slc r l0 n) (h1 : σ.eval lo = .d (.int k1 n)) (hd : dstOk N o.dst) (k : Nat) (hK : K (σ.put o.dst (.d (.imm k [])))) : OpT P G ro N o σ K := by
  intro B hro a w φ hr next Q hnx
  have hv := hr.eval x
  rw [hx] at hv
  have v1 := hr.eval lo; rw [h1] at v1
  have hs : ∃ p cap, a.eval x = .slice p n cap ∧ n ≤ cap ∧ (p = none → n = 0 ∧ cap = 0) ∧ ∀ q, p = some q → q.spot = none := by
    rcases repV_slc hv with ⟨⟨p, e1, e3⟩, _, e2, _⟩ | ⟨_, b, cap, e1, _, _, _, e2, _⟩
    · exact ⟨p, 0, by rw [e1, e2], by omega, fun _ => ⟨e2, rfl⟩, e3⟩
    · exact ⟨_, cap, e1, e2, (by intro h; cases h), (by intro q hq; cases hq; rfl)⟩
  obtain ⟨p, cap, e1, e2, e3, e4⟩ := hs
  have hrun : (Instr.sliceAt t (a.eval x) (some (a.eval lo)) none none).run P w = .ok (.slice (if cap = n then p else p.map (·.add (n * z.size))) 0 (cap - n)) w := by
    rw [e1, repV_int v1]
    simp only [Instr.sliceAt, Sem.run_bind, run_tyUnder ht, Result.andThen, hde, Instr.slice, Instr.sliceBounds, Option.isSome_none, run_bound (k := k1) (n := (n : Int)) (y := n) (by omega) (by omega), Sem.run_pure, run_tySize he, Int.toNat_natCast, Bool.false_eq_true, if_false, Nat.sub_self]
  refine wpIn_value (u := .slice (if cap = n then p else p.map (·.add (n * z.size))) 0 (cap - n)) ?_ (hnx _ _ _ φ hK (hr.put hd (.d ?_)))
  · rw [Oper.semAt_eq _ _ _ (fun c hc => by rw [ho] at hc; cases hc)]
    simp only [execOp, ho, Option.map_some, Option.map_none]
    exact run_v hrun
  · cases p with
    | none =>
      obtain ⟨h8, h9⟩ := e3 rfl
      subst h8 h9
      simp only [Option.map_none, ite_self, Nat.sub_self]
      exact .imm0 k
    | some q =>
      obtain ⟨qb, qo, qs⟩ := q
      have := e4 _ rfl
      dsimp only at this
      subst this
      rw [Option.map_some, add_eq]
      split
      · exact .imm (fun _ => undef) (fun _ => rfl) (fun h => absurd rfl h) rfl (by omega) (fun i hi => by simp at hi) (fun i hi => by simp at hi) (fun i hi => by simp at hi) (fun i hi => by simp at hi) (fun i hi => by simp at hi)
      · exact .imm (fun _ => undef) (fun _ => rfl) (fun h => absurd rfl h) rfl (by omega) (fun i hi => by simp at hi) (fun i hi => by simp at hi) (fun i hi => by simp at hi) (fun i hi => by simp at hi) (fun i hi => by simp at hi)
theorem OpX.sliceEnd {xs : Exc} {K : Foot → St → Prop} {x lo : Operand} {t e : TypeId} {y z : Ty} {r l0 n : Nat} {k1 : IntKind} (ho : o.op = .slice t x (some lo) none none) (ht : tyOf P t = some y) (hde : y.desc = .slice e) (he : tyOf P e = some z)
    (hx : σ.eval x = .slc r l0 n) (h1 : σ.eval lo = .d (.int k1 n)) (hd : dstOk N o.dst) (k : Nat) (hxs : exE xs (dstEff o.dst (.d (.imm k [])))) (hK : K (some (tmpKeys (opnds o.op) ++ rowKeys σ (opnds o.op), dstKeys o.dst)) (σ.put o.dst (.d (.imm k [])))) : OpX P G ro N xs o σ K := by
  refine ⟨some (tmpKeys (opnds o.op) ++ rowKeys σ (opnds o.op), dstKeys o.dst), σ.put o.dst (.d (.imm k [])), ⟨dstEff o.dst (.d (.imm k [])), fun k hk => by rw [ekeys_dst] at hk; exact hk, hxs, fun σ' hd' hs _ => ?_, look_put _ _ _, St.put_rest _ _ _⟩, hK⟩
  have ha := eval_agree (σ := σ) (σ' := σ') (l := opnds o.op) fun k hk => hs k (List.mem_append_left _ hk)
  rw [ho] at ha
  have m1 : x ∈ opnds (.slice t x (some lo) none none) := by simp [opnds, optOp]
  have m2 : lo ∈ opnds (.slice t x (some lo) none none) := by simp [opnds, optOp]
  exact OpT.sliceEnd ho ht hde he (by rw [ha _ m1]; exact hx) (by rw [ha _ m2]; exact h1) hd k ⟨by rw [St.put_rest]; exact hd', look_put _ _ _⟩
variable {ops : Array Oper} {rest : List Oper} {σ' : St}
theorem on {Q : St → Prop} (h : ∀ K : St → Prop, (∀ σ, AOps P G ro N ops rest σ Q → K σ) → OpT P G ro N o σ K) (hd : dstOk N o.dst := by (simp only [go_sem, ↓reduceIte]; done))
    (hg : ∀ {K : St → Prop}, OpT P G ro N o σ K → vcOpC P G ro N (dsts ops) o σ K := by (intro K k; simp (disch := omega) only [go_sem, ↓reduceIte]; exact k)) : AOps P G ro N ops (o :: rest) σ Q :=
  AOps.consC hd fun K hK => hg (h K hK)
theorem dn {xs : Exc} {acc : List Foot} {Q : St → Prop} (hg : o.guard = none) (h : ∀ K : Foot → St → Prop, (∀ f σ1, DOps P G ro N xs ops Q rest (acc ++ [f]) σ1 → K f σ1) → OpX P G ro N xs o σ K) : DOps P G ro N xs ops Q (o :: rest) acc σ :=
  DOps.consC fun K hK => by unfold dgStep; rw [hg]; exact h K hK
theorem HandFn.pf {f : FuncId} {fn : Func} {c : Code} {args : List PV} {n : Nat} {e0 : List (Nat × PV)} {i e k : Nat} {l l' : List PD} {res : PV} (hf : P.funcs[f]? = some fn) (hn : fn.ntmps = n) (hl : l'.length = l.length)
    (h : AWp P G none n c ⟨e0, [(i, ⟨e, k, dl l⟩)], [], none⟩ (Fin P G fn fun p K => p = res ∧ K = [(i, ⟨e, k, dl l'⟩)])) (hb : fn.body = some c := by rfl) (hN : args.length ≤ n := by simp)
    (he : argEnv 0 args = e0 := by (simp only [argEnv, Nat.reduceAdd, Nat.zero_add]; rfl)) : HandFn P G f args i e k l res l' := by
  subst hn he
  intro B φ vs h0 h1 h2 h3
  refine (Fn.intro hf hb hN h B φ vs h0 h1 h2 h3).mono ?_
  rintro e' w' ⟨v, p, H', g', φ', he, ⟨rfl, rfl⟩, hv, hs⟩
  exact ⟨v, _, _, g', φ', he, ⟨rfl, rfl, hl⟩, hv, hs⟩
theorem rtHand {fn : Func} {p res : PV} {i e k : Nat} {l : List PD} (hp : resV P G fn.results.toList σ = some p := by (simp only [go_sem, ↓reduceIte]; rfl)) (hpr : p = res) (hh : σ.heap = [(i, ⟨e, k, dl l⟩)]) (hd : σ.dfr = [] := by first | exact True.intro | rfl) :
    Fin P G fn (fun p K => p = res ∧ K = [(i, ⟨e, k, dl l⟩)]) .ret σ := ⟨p, hp, hd, hpr, hh⟩
variable {τ : St}
end
end Go.Pv

namespace Go.Pv
section
variable {P : Program} {G : List (Nat × PD)} {ro : Option Nat} {N : Nat} {σ σ' : St} {ops : Array Oper} {o : Oper} {rest : List Oper}
end
end Go.Pv

namespace Go.Pv
def kfind {α : Type} [DecidableEq α] (a : α) : List α → Option Nat
  | [] => none
  | b :: l => if a = b then some 0 else (kfind a l).map (· + 1)
structure KeyEnc (P : Program) (kt : TypeId) {α : Type} [DecidableEq α] (enc : α → PD) (val : α → Value) : Prop where
  uniq : ∀ {w : World} {ok : Nat → Nat → Prop} {v : Value} {a : α}, RepD w ok v (enc a) → v = val a
  check : ∀ (w : World) (em : Bool) (a : α), (Instr.checkKey em 10000 kt (val a)).run P w = .ok () w
  find : ∀ (w : World) (a : α) (es : List MapEntry) (ks : List α), es.map (·.key) = ks.map val → (Instr.findKey kt (val a) es).run P w = .ok ((kfind a ks).map fun j => (j, (es.getD j default).val)) w
  stays : ∀ (w : World) (a : α), (Instr.keyThatStays (val a) (val a)).run P w = .ok (val a) w
theorem findNow_of {α : Type} [DecidableEq α] {d : TypeDesc} {val : α → Value} (h : ∀ a b, Instr.sameNow d (val a) (val b) = some (decide (a = b))) (a : α) : ∀ (es : List MapEntry) (ks : List α) (i : Nat), es.map (·.key) = ks.map val →
    Instr.findNow d (val a) es i = some ((kfind a ks).map fun j => (i + j, (es.getD j default).val))
  | [], ks, i, he => by
    have : ks = [] := by simpa using he.symm
    subst this; rfl
  | e :: es, [], i, he => by simp at he
  | e :: es, b :: ks, i, he => by
    simp only [List.map_cons, List.cons.injEq] at he
    simp only [Instr.findNow, he.1, h, kfind]
    by_cases hab : a = b
    · simp [hab]
    · simp only [hab, decide_false, if_false]
      rw [findNow_of h a es ks (i + 1) he.2]
      cases kfind a ks with
      | none => rfl
      | some j => simp [Nat.add_comm, Nat.add_left_comm]
theorem KeyEnc.plain {P : Program} {kt : TypeId} {d : TypeDesc} {α : Type} [DecidableEq α] {enc : α → PD} {val : α → Value} (hk : P.underlying kt = some d) (hik : ∀ a, MapKept.IsKey d (val a)) (hu : ∀ {w : World} {ok : Nat → Nat → Prop} {v : Value} {a : α}, RepD w ok v (enc a) → v = val a)
    (h : ∀ a b, Instr.sameNow d (val a) (val b) = some (decide (a = b))) : KeyEnc P kt enc val where
  uniq := hu
  check w em a := MapKept.run_checkKey hk (hik a) em 9999
  find w a es ks he := by
    have := findNow_of h a es ks 0 he
    rw [MapKept.run_findKey hk this]
    simp
  stays w a := MapKept.run_keyThatStays (hik a)
theorem KeyEnc.int {P : Program} {kt : TypeId} {k : IntKind} (hk : P.underlying kt = some (.int k)) : KeyEnc P kt (PD.int k) (Value.int k) :=
  .plain hk (fun a => by simp [MapKept.IsKey]) (fun h => repD_int h) fun a b => by
    simp only [Instr.sameNow, if_true]
    by_cases h : a = b <;> simp [h]
theorem KeyEnc.str {P : Program} {kt : TypeId} (hk : P.underlying kt = some .string) : KeyEnc P kt PD.str Value.string :=
  .plain hk (fun a => by simp [MapKept.IsKey]) (fun h => repD_str h) fun a b => by
    simp only [Instr.sameNow]
    congr 1
    rw [beq_toListBytes, Bool.eq_iff_iff, beq_iff_eq, decide_eq_true_iff]
    constructor
    · intro h
      have h2 : a.data = b.data := by rw [ByteArray.toList_eq, ByteArray.toList_eq] at h; exact Array.toList_inj.1 h
      cases a; cases b; simpa using h2
    · rintro rfl; rfl
section
variable {P : Program} {w : World}
theorem findAsking_of {α : Type} [DecidableEq α] {kt : TypeId} {val : α → Value} (h : ∀ a b, (Op.equal kt (val a) (val b)).run P w = .ok (decide (a = b)) w) (a : α) : ∀ (es : List MapEntry) (ks : List α) (i : Nat), es.map (·.key) = ks.map val →
    (Instr.findAsking kt (val a) es i).run P w = .ok ((kfind a ks).map fun j => (i + j, (es.getD j default).val)) w
  | [], ks, i, he => by
    have : ks = [] := by simpa using he.symm
    subst this; simp [Instr.findAsking, kfind]
  | e :: es, [], i, he => by simp at he
  | e :: es, b :: ks, i, he => by
    simp only [List.map_cons, List.cons.injEq] at he
    simp only [Instr.findAsking, he.1, Sem.run_bind, h, Result.andThen_ok, kfind]
    by_cases hab : a = b
    · simp [hab]
    · simp only [hab, decide_false, if_false, Bool.false_eq_true]
      rw [findAsking_of h a es ks (i + 1) he.2]
      cases kfind a ks with
      | none => rfl
      | some j => simp [Nat.add_comm, Nat.add_left_comm]
theorem eqItems_ints {e : TypeId} {k : IntKind} (he : P.underlying e = some (.int k)) (d : Nat) (l m : List Int) : ∀ is : List Nat, (∀ i ∈ is, i < l.length ∧ i < m.length) →
    (Op.eqItems (d + 1) e 1 ((l.map (Value.int k)).toArray) ((m.map (Value.int k)).toArray) is).run P w = .ok (is.all fun i => decide (l[i]? = m[i]?)) w
  | [], _ => by simp [Op.eqItems]
  | i :: is, h => by
    obtain ⟨h1, h2⟩ := h i (by simp)
    have hp : P.plainKey e = true := by simp [Program.plainKey, he]
    have e1 : (part e ((l.map (Value.int k)).toArray) (i * 1)).run P w = .ok (.int k l[i]) w := run_part_plain w hp (by simp [h1])
    have e2 : (part e ((m.map (Value.int k)).toArray) (i * 1)).run P w = .ok (.int k m[i]) w := run_part_plain w hp (by simp [h2])
    have e3 := run_equalIn_int (P := P) w d e k k l[i] m[i] (by simp [he])
    simp only [Op.eqItems, Sem.run_bind, e1, e2, e3, Result.andThen_ok, List.all_cons, List.getElem?_eq_getElem h1, List.getElem?_eq_getElem h2, Option.some.injEq]
    by_cases hab : l[i] = m[i]
    · simp only [hab, beq_self_eq_true, Bool.not_true, Bool.false_eq_true, if_false, decide_true, Bool.true_and]
      exact eqItems_ints he d l m is fun j hj => h j (by simp [hj])
    · simp [hab]
theorem checkKey_ints {kt e : TypeId} {k : IntKind} {n : Nat} {i : TypeInfo} (hk : P.underlying kt = some (.array n e)) (hi : P.info? e = some i) (hs : i.size = 1) (he : P.underlying e = some (.int k)) (em : Bool) (d : Nat) (l : List Int) (hl : l.length = n) :
    (Instr.checkKey em (d + 2) kt (.agg ((l.map (Value.int k)).toArray))).run P w = .ok () w := by
  have hp : P.plainKey e = true := by simp [Program.plainKey, he]
  have hsz : (sizeOf e).run P w = .ok 1 w := by simp [sizeOf, typeInfo, Sem.run_bind, program, Sem.run, hi, hs, Result.andThen]
  rw [Instr.checkKey]
  simp only [Sem.run_bind, run_underlying hk, Result.andThen_ok]
  simp only [Std.Legacy.Range.forIn_eq_forIn_range', Std.Legacy.Range.size, Nat.sub_zero, Nat.add_one_sub_one, Nat.div_one]
  have hall : ∀ is : List Nat, (∀ j ∈ is, j < l.length) → (forIn is PUnit.unit (fun j _ => do
        let s ← sizeOf e
        let v ← part e ((l.map (Value.int k)).toArray) (j * s)
        Instr.checkKey em (d + 1) e v
        pure (ForInStep.yield PUnit.unit)) : Sem PUnit).run P w = .ok PUnit.unit w := by
    intro is
    induction is with
    | nil => intro _; simp
    | cons j is ih =>
      intro h
      have h1 := h j (by simp)
      have e1 : (part e ((l.map (Value.int k)).toArray) (j * 1)).run P w = .ok (.int k l[j]) w := run_part_plain w hp (by simp [h1])
      have e2 : (Instr.checkKey em (d + 1) e (.int k l[j])).run P w = .ok () w := MapKept.run_checkKey he (by simp [MapKept.IsKey]) em d
      simp only [List.forIn_cons, Sem.run_bind, hsz, Result.andThen_ok, e1, e2, Sem.run_pure]
      exact ih fun j hj => h j (by simp [hj])
  have := hall (List.range' 0 n) (fun j hj => by simp at hj; omega)
  rw [this]; rfl
theorem KeyEnc.ints {kt e : TypeId} {k : IntKind} {n : Nat} {i : TypeInfo} (hk : P.underlying kt = some (.array n e)) (hi : P.info? e = some i) (hs : i.size = 1) (he : P.underlying e = some (.int k)) {α : Type} [DecidableEq α] (toL : α → List Int) (hn : ∀ a, (toL a).length = n) (hj : ∀ a b, toL a = toL b → a = b) :
    KeyEnc P kt (fun a => PD.agg ((toL a).map (PD.int k))) (fun a => Value.agg ((toL a).map (Value.int k)).toArray) where
  uniq {w ok v a} h := by
    cases h with
    | @agg vs _ hs h hf =>
      refine congrArg Value.agg (Array.ext (by simpa using hs) fun j h1 h2 => ?_)
      · have h3 : j < (toL a).length := by simpa using h2
        have := h j (by simpa using h3)
        simp only [List.getElem_map] at this
        have := repD_int this
        simp only [Array.getD, h1, dite_true] at this
        simpa using this
  check w em a := checkKey_ints hk hi hs he em 9998 (toL a) (hn a)
  find w a es ks hes := by
    have hc : P.cellsOf e = 1 := by simp [Program.cellsOf, hi, hs]
    have heq : ∀ a b, (Op.equal kt (.agg ((toL a).map (Value.int k)).toArray) (.agg ((toL b).map (Value.int k)).toArray)).run P w = .ok (decide (a = b)) w := fun a b => by
      have h1 := run_equalIn_array (P := P) (w := w) 9999 ((toL a).map (Value.int k)).toArray ((toL b).map (Value.int k)).toArray hk hi
      rw [hc] at h1
      have h2 := eqItems_ints (P := P) (w := w) he 9998 (toL a) (toL b) (List.range n) (fun i hi => by rw [hn, hn]; simpa using hi)
      rw [h2] at h1
      refine h1.trans ?_
      congr 1
      rw [Bool.eq_iff_iff, List.all_eq_true, decide_eq_true_iff]
      constructor
      · intro h
        refine hj a b (List.ext_getElem? fun j => ?_)
        by_cases hjn : j < n
        · simpa using h j (by simpa using hjn)
        · rw [List.getElem?_eq_none (by rw [hn]; omega), List.getElem?_eq_none (by rw [hn]; omega)]
      · rintro rfl j _; simp
    rw [run_findKey_eq w (by simp [hk])]
    have := findAsking_of (P := P) (w := w) (val := fun a => Value.agg ((toL a).map (Value.int k)).toArray) heq a es ks 0 hes
    simpa using this
  stays w a := by
    have h : ∀ l : List Int, Instr.sameBits 10000 (.agg ((l.map (Value.int k)).toArray)) (.agg ((l.map (Value.int k)).toArray)) = true := fun l => by
      simp only [Instr.sameBits, beq_self_eq_true, Bool.true_and, List.all_eq_true]
      rintro ⟨x, y⟩ hxy
      have : x = y ∧ ∃ n, x = Value.int k n := by
        simp only [List.zip_map', List.mem_map] at hxy
        simp at hxy
        obtain ⟨z, _, h1, h2⟩ := hxy
        exact ⟨h1.symm.trans h2, z, h1.symm⟩
      obtain ⟨rfl, n, rfl⟩ := this
      simp [Instr.sameBits]
    simp only [Instr.keyThatStays, h, if_true, Sem.run_pure]
end
def ment {α β : Type} (encK : α → PD) (encV : β → PD) (e : α × β) : PV := .tuple [.d (encK e.1), .d (encV e.2)]
def mels {α β : Type} (encK : α → PD) (encV : β → PD) (L : List (α × β)) : List PV := L.map (ment encK encV)
def mget {α β : Type} [DecidableEq α] (a : α) : List (α × β) → Option β
  | [] => none
  | e :: l => if a = e.1 then some e.2 else mget a l
theorem mget_kfind {α β : Type} [DecidableEq α] (a : α) : ∀ l : List (α × β), mget a l = (kfind a (l.map Prod.fst)).bind fun j => (l[j]?).map Prod.snd
  | [] => rfl
  | e :: l => by
    simp only [mget, List.map_cons, kfind]
    split
    · rfl
    · rw [mget_kfind a l]
      cases kfind a (l.map Prod.fst) with
      | none => rfl
      | some j => rfl
theorem kfind_lt {α : Type} [DecidableEq α] {a : α} : ∀ {l : List α} {j : Nat}, kfind a l = some j → l[j]? = some a
  | [], j, h => by simp [kfind] at h
  | b :: l, j, h => by
    simp only [kfind] at h
    split at h
    · rename_i e; simp only [Option.some.injEq] at h; subst h; subst e; rfl
    · simp only [Option.map_eq_some_iff] at h
      obtain ⟨i, h1, rfl⟩ := h
      simpa using kfind_lt h1
section
variable {P : Program} {G : List (Nat × PD)} {ro : Option Nat} {N : Nat} {o : Oper} {σ : St} {K : St → Prop}
theorem map_row {w : World} {X : Nat → Nat → Prop} {φ : Nm} {H : Heap} {b e : Nat} {α β : Type} [DecidableEq α] {kt : TypeId} {encK : α → PD} {valK : α → Value} {encV : β → PD} {L : List (α × β)} (hK : KeyEnc P kt encK valK) (h : RowOk w X φ H b ⟨e, 0, mels encK encV L⟩) :
    ∃ es cl, w.heap[b]? = some (.map es cl) ∧ es.size = L.length ∧ es.toList.map (·.key) = (L.map Prod.fst).map valK ∧ ∀ j (hj : j < L.length), RepV w X φ H (es.toList.getD j default).val (.d (encV L[j].2)) := by
  obtain ⟨es, cl, h1, h2, h3⟩ := h.map rfl
  have hl : (mels encK encV L).length = L.length := by simp [mels]
  have hget : ∀ j (hj : j < L.length), (es.toList.getD j default).key = valK L[j].1 ∧ RepV w X φ H (es.toList.getD j default).val (.d (encV L[j].2)) := fun j hj => by
    have h4 := h3 j (by rw [hl]; exact hj)
    have e1 : (mels encK encV L)[j]'(by rw [hl]; exact hj) = .tuple [.d (encK L[j].1), .d (encV L[j].2)] := by simp [mels, ment]
    have e0 : es.getD j default = es.toList.getD j default := by simp [Array.getD_eq_getD_getElem?]
    rw [e1, e0] at h4
    cases h4 with
    | tuple hs h5 =>
      have h6 := h5 0 (by simp)
      have h7 := h5 1 (by simp)
      exact ⟨hK.uniq (repV_d h6), h7⟩
  have h2' : es.size = L.length := by rw [h2]; simp [mels]
  refine ⟨es, cl, h1, h2', ?_, fun j hj => (hget j hj).2⟩
  apply List.ext_getElem
  · simpa using h2'
  · intro j hj1 hj2
    have hj : j < L.length := by simpa using hj2
    have := (hget j hj).1
    simp only [List.getElem_map]
    rw [← this]
    simp [List.getD, h2', hj]
theorem OpT.lookup {α β : Type} [DecidableEq α] {kt et t : TypeId} {x ix : Operand} {cok : Bool} {r e : Nat} {L : List (α × β)} {k : α} {v0 : β} {encK : α → PD} {valK : α → Value} {encV : β → PD} {y : Ty} {z : Value} (hK : KeyEnc P kt encK valK)
    (ho : o.op = .lookup t x ix cok) (ht : P.underlying t = some (.map kt et)) (hx : σ.eval x = .mp r) (hrow : hget σ.heap r = some ⟨e, 0, mels encK encV L⟩) (hi : σ.eval ix = .d (encK k)) (hy : tyOf P et = some y) (hz : y.zero = some z)
    (hzv : ∀ (w : World) (ok : Nat → Nat → Prop), RepD w ok z (encV v0)) (hd : dstOk N o.dst)
    (hk : K (σ.put o.dst (if cok then .tuple [.d (encV ((mget k L).getD v0)), .d (.bool (mget k L).isSome)] else .d (encV ((mget k L).getD v0))))) : OpT P G ro N o σ K := by
  intro B hro a w φ hr next Q hn
  have hxv := hr.eval x
  rw [hx] at hxv
  generalize hav : a.eval x = av at hxv
  cases hxv with | mp hx2 hb hk0 =>
  rename_i b x2
  rw [hrow] at hx2; cases hx2
  have hiv := hr.eval ix
  rw [hi] at hiv
  have hiv := hK.uniq (repV_d hiv)
  obtain ⟨es, cl, h1, h2, h3, h4⟩ := map_row hK (hr.heap.rows r _ b hrow hb)
  have hf := hK.find w k es.toList (L.map Prod.fst) h3
  have hc := hK.check w es.isEmpty k
  have hzr := run_tyZero hy hz w
  obtain ⟨u, hu, hur⟩ : ∃ u : Value × Bool, (Instr.lookup t (a.eval x) (a.eval ix) cok).run P w = .ok (if cok then .tuple #[u.1, .bool u.2] else u.1) w ∧ RepV w B.X φ σ.heap u.1 (.d (encV ((mget k L).getD v0))) ∧ u.2 = (mget k L).isSome := by
    rw [mget_kfind, hav, hiv]
    simp only [Instr.lookup, Sem.run_bind, run_underlying ht, Result.andThen_ok, MapKept.run_getObj_map h1, Sem.run_pure, hc, hf]
    cases hj : kfind k (L.map Prod.fst) with
    | none => exact ⟨(z, false), by simp only [Option.map_none, Sem.run_bind, hzr, Result.andThen_ok, Sem.run_pure], .d (hzv _ _), rfl⟩
    | some j =>
      have hjl : j < L.length := by
        have := kfind_lt hj
        obtain ⟨h, _⟩ := List.getElem?_eq_some_iff.1 this
        simpa using h
      refine ⟨((es.toList.getD j default).val, true), by simp only [Option.map_some, Sem.run_bind]; rfl, ?_, by simp [hjl]⟩
      have := h4 j hjl
      simpa [hjl] using this
  refine wpIn_value (u := if cok then .tuple #[u.1, .bool u.2] else u.1) (w' := w) ?_ (hn _ _ _ φ hk (hr.put hd ?_))
  · rw [Oper.semAt_eq _ _ _ (fun c hc => by rw [ho] at hc; cases hc)]
    simp only [execOp, ho]
    exact run_v hu
  · cases cok with
    | false => exact hur.1
    | true =>
      refine .tuple rfl fun i hi => ?_
      match i, hi with
      | 0, _ => exact hur.1
      | 1, _ => rw [← hur.2]; exact .d (.bool _)
end
end Go.Pv

namespace Go.Pv
def hdrop (gs : List Nat) : Heap → Heap
  | [] => []
  | (r, x) :: l => if gs.contains r = true then hdrop gs l else (r, x) :: hdrop gs l
theorem hget_hdrop (gs : List Nat) : ∀ (H : Heap) (s : Nat), hget (hdrop gs H) s = if s ∈ gs then none else hget H s
  | [], s => by simp [hdrop, hget]
  | (r, x) :: l, s => by
    simp only [hdrop]
    by_cases hr : gs.contains r = true
    · rw [if_pos hr, hget_hdrop gs l s]
      by_cases hs : s ∈ gs
      · simp [hs]
      · simp only [hs, if_false, hget]
        rw [if_neg (fun e => hs (by subst e; simpa using hr))]
    · rw [if_neg hr]
      simp only [hget, hget_hdrop gs l s]
      by_cases hrs : r = s
      · subst hrs
        have : ¬ r ∈ gs := by simpa using hr
        simp [this]
      · simp [hrs]
structure ExtU (gs : List Nat) (w : World) (X : Nat → Nat → Prop) (φ : Nm) (H : Heap) (w' : World) (φ' : Nm) (H' : Heap) : Prop where
  dom : ∀ s x, s ∉ gs → hget H s = some x → ∃ x', hget H' s = some x' ∧ x'.k = x.k ∧ (1 ≤ x.k → x'.els.length = x.els.length) ∧ φ' s = φ s
  okd : ∀ b k, okd w X φ H b k → okd w' X φ' H' b k
  okb : ∀ b k, okb w φ H b k → okb w' φ' H' b k
  blk : ∀ b k, Pv.okb w φ H b k → w'.heap[b]? = w.heap[b]?
  sz : ∀ s x b, s ∉ gs → hget H s = some x → φ s = some b → ∀ c e f, w'.heap[b]? = some (.cells c e f) → ∃ c0 e0 f0, w.heap[b]? = some (.cells c0 e0 f0) ∧ c0.size = c.size
theorem RepV.extU {gs : List Nat} {w w' : World} {X : Nat → Nat → Prop} {φ φ' : Nm} {H H' : Heap} (h : ExtU gs w X φ H w' φ' H') {v : Value} {p : PV} (hv : RepV w X φ H v p) : (∀ r ∈ rowsOf p, r ∉ gs) → RepV w' X φ' H' v p := by
  induction hv with
  | any v => intro _; exact .any v
  | d hd => intro _; exact .d (hd.mono h.okd (fun b k hb => h.blk b k (okb_of_okd hb)))
  | b hd => intro _; exact .b (hd.mono h.okb h.blk)
  | ptr hx hb hk =>
    intro hg
    obtain ⟨x', h1, h2, _, h4⟩ := h.dom _ _ (hg _ (by simp [rowsOf])) hx
    rw [← h2]
    exact .ptr h1 (h4.trans hb) (h2 ▸ hk)
  | dptr hd hi => intro _; exact .dptr (hd.mono h.okd (fun b k hb => h.blk b k (okb_of_okd hb))) hi
  | bptr hd hi => intro _; exact .bptr (hd.mono h.okb h.blk) hi
  | glob g => intro _; exact .glob g
  | val hf => intro _; exact .val hf
  | slc hx hb hk hn hc hl hz =>
    intro hg
    obtain ⟨x', h1, h2, h3, h4⟩ := h.dom _ _ (hg _ (by simp [rowsOf])) hx
    have h3 := h3 hk
    rw [← h2]
    refine .slc h1 (h4.trans hb) (h2 ▸ hk) (h3 ▸ hn) hc (h3 ▸ hl) (fun c e f hh => ?_)
    obtain ⟨c0, e0, f0, h5, h6⟩ := h.sz _ _ _ (hg _ (by simp [rowsOf])) hx hb c e f hh
    rw [h2, ← h6]
    exact hz _ _ _ h5
  | slc0 hx hb hk hp =>
    intro hg
    obtain ⟨x', h1, h2, _, h4⟩ := h.dom _ _ (hg _ (by simp [rowsOf])) hx
    exact .slc0 h1 (h4.trans hb) (h2 ▸ hk) hp
  | mp hx hb hk =>
    intro hg
    obtain ⟨x', h1, h2, _, h4⟩ := h.dom _ _ (hg _ (by simp [rowsOf])) hx
    exact .mp h1 (h4.trans hb) (h2 ▸ hk)
  | func hs _ ih => intro hg; simp only [rowsOf] at hg; exact .func hs fun i hi => ih i hi fun r hr => hg r (rowsOfL_mem hi hr)
  | agg hs _ hf ih => intro hg; simp only [rowsOf] at hg; exact .agg hs (fun i hi => ih i hi fun r hr => hg r (rowsOfL_mem hi hr)) hf
  | tuple hs _ ih => intro hg; simp only [rowsOf] at hg; exact .tuple hs fun i hi => ih i hi fun r hr => hg r (rowsOfL_mem hi hr)
theorem rowsOfL_mem' {l : List PV} {p : PV} (hp : p ∈ l) {r : Nat} (h : r ∈ rowsOf p) : r ∈ rowsOfL l := by
  obtain ⟨i, hi, rfl⟩ := List.getElem_of_mem hp
  exact rowsOfL_mem hi h
structure HandU (σ : St) (H : Heap) (g : Nat → Nat) (gs : List Nat) : Prop where
  h0 : Hand0 σ H g
  giv : ∀ r x, hget H r = some x → 1000 ≤ r → g r ∈ gs
  pin : ∀ r x, hget H r = some x → r < 1000 → g r ∉ gs
  all : ∀ s ∈ gs, ∃ r x, hget H r = some x ∧ g r = s
  big : ∀ s ∈ gs, 1000 ≤ s
  env : ∀ s ∈ gs, ∀ t, s ∉ rowsOf (eget σ.env t)
  dfr : ∀ s ∈ gs, s ∉ rowsOfL σ.dfr
  out : ∀ s ∈ gs, ∀ t y, hget σ.heap t = some y → (∀ r x, hget H r = some x → g r ≠ t) → s ∉ rowsOfL y.els
structure BackU (σ : St) (H H' : Heap) (g ρ : Nat → Nat) (gs : List Nat) : Prop where
  old : ∀ r x', hget H' r = some x' → r < 1000 → ∃ x, hget H r = some x ∧ ρ r = g r ∧ x'.k = x.k ∧ (1 ≤ x.k → x'.els.length = x.els.length)
  all : ∀ r x, hget H r = some x → r < 1000 → ∃ x', hget H' r = some x'
  new : ∀ r x', hget H' r = some x' → 1000 ≤ r → (hget σ.heap (ρ r) = none ∨ ρ r ∈ gs) ∧ 1000 ≤ ρ r
  inj : ∀ r s x y, hget H' r = some x → hget H' s = some y → ρ r = ρ s → r = s
  refs : ∀ r x, hget H' r = some x → refsInL H' x.els ∧ cleanL x.els
structure MergedU (σ : St) (H' : Heap) (ρ : Nat → Nat) (gs : List Nat) (H2 : Heap) : Prop where
  inn : ∀ r x, hget H' r = some x → hget H2 (ρ r) = some (x.ren ρ)
  out : ∀ s, (∀ r x, hget H' r = some x → ρ r ≠ s) → hget H2 s = if s ∈ gs then none else hget σ.heap s
section
variable {P : Program} {G : List (Nat × PD)} {B : Base P} {N : Nat} {σ : St} {a : Act} {w w' : World} {φ φ' : Nm} {H H' H2 : Heap} {g ρ : Nat → Nat} {gs : List Nat}
theorem BackU.merged (hb : BackU σ H H' g ρ gs) : MergedU σ H' ρ gs (hmerge ρ H' (hdrop gs σ.heap)) := by
  obtain ⟨h1, h2⟩ := hmerge_ok (ρ := ρ) (l := H') (H0 := hdrop gs σ.heap) (fun r s hr hs he => by
    obtain ⟨x, hx⟩ := Option.isSome_iff_exists.1 hr
    obtain ⟨y, hy⟩ := Option.isSome_iff_exists.1 hs
    exact hb.inj r s x y hx hy he)
  exact ⟨h1, fun s hn => (h2 s hn).trans (hget_hdrop _ _ _)⟩
open Classical in
theorem backNm_inU {φ' : Nm} (hi : ∀ r s x y, hget H' r = some x → hget H' s = some y → ρ r = ρ s → r = s) {r : Nat} {x : Row} (h : hget H' r = some x) : (backNm φ φ' H' ρ none) (ρ r) = φ' r := by
  have hex : ∃ r', (hget H' r').isSome = true ∧ ρ r' = ρ r := ⟨r, by rw [h]; rfl, rfl⟩
  show (if h : ∃ r', (hget H' r').isSome = true ∧ ρ r' = ρ r then φ' (Classical.choose h) else φ (ρ r)) = _
  rw [dif_pos hex]
  obtain ⟨h1, h2⟩ := Classical.choose_spec hex
  obtain ⟨y, hy⟩ := Option.isSome_iff_exists.1 h1
  rw [hi _ _ _ _ hy h h2]
structure CameU (hr : Rep G B N σ a w φ) (H H' H2 : Heap) (g ρ : Nat → Nat) (gs : List Nat) (g' : Gh) (w' : World) (φ' : Nm) : Prop where
  hh : HandU σ H g gs
  hb : BackU σ H H' g ρ gs
  hm : MergedU σ H' ρ gs H2
  hs : Sit G (hr.bc H g none) w' φ' H' g'
variable {g' : Gh} {hr : Rep G B N σ a w φ} (c : CameU hr H H' H2 g ρ gs g' w' φ')
include c
theorem CameU.old {b : Nat} (hlt : b < w.heap.size) (h : ¬ own (handNm φ H g none) H b) : w'.heap[b]? = w.heap[b]? := c.hs.keeps.block b hlt h
theorem CameU.out_own {s b : Nat} {y : Row} (hn : ∀ r x, hget H' r = some x → ρ r ≠ s) (hg : s ∉ gs) (hy : hget σ.heap s = some y) (hφ : φ s = some b) : ¬ own (handNm φ H g none) H b := by
  rintro (⟨r, x, hx, hrb⟩ | hT)
  · rw [handNm_f hx] at hrb
    have e := hr.heap.inj _ _ _ _ b (c.hh.h0.row r x hx) hy hrb hφ
    rcases Nat.lt_or_ge r 1000 with h | h
    · obtain ⟨x', hx'⟩ := c.hb.all r x hx h
      obtain ⟨_, _, h2, _⟩ := c.hb.old r x' hx' h
      exact hn r x' hx' (h2.trans e)
    · exact hg (e ▸ c.hh.giv r x hx h)
  · simp [handNm] at hT
theorem CameU.handed {r : Nat} {x' : Row} (hx' : hget H' r = some x') (hp : r < 1000) : ∃ x, hget H r = some x ∧ ρ r = g r ∧ x'.k = x.k ∧ (1 ≤ x.k → x'.els.length = x.els.length) ∧ φ' r = φ (g r) := by
  obtain ⟨x, h1, h2, h3, h4⟩ := c.hb.old r x' hx' hp
  refine ⟨x, h1, h2, h3, h4, ?_⟩
  have := c.hs.pins r x' hx' (by simp [pinned, hp])
  exact this.trans (handNm_f (φ := φ) (g := g) (gc := none) h1)
theorem CameU.row_of {b : Nat} (h : rowB (backNm φ φ' H' ρ none) H2 b) : rowB φ' H' b ∨ ∃ s y, (∀ r x, hget H' r = some x → ρ r ≠ s) ∧ s ∉ gs ∧ hget σ.heap s = some y ∧ φ s = some b := by
  obtain ⟨s, y, h1, h2⟩ := h
  by_cases hex : ∃ r x, hget H' r = some x ∧ ρ r = s
  · obtain ⟨r, x, hx, rfl⟩ := hex
    rw [backNm_inU c.hb.inj hx] at h2
    exact .inl ⟨r, x, hx, h2⟩
  · have hn : ∀ r x, hget H' r = some x → ρ r ≠ s := fun r x hx e => hex ⟨r, x, hx, e⟩
    rw [backNm_out hn] at h2
    rw [c.hm.out s hn] at h1
    split at h1
    · cases h1
    · rename_i hg
      exact .inr ⟨s, y, hn, hg, h1, h2⟩
theorem CameU.own_old {b : Nat} (hlt : b < w.heap.size) (h : own (backNm φ φ' H' ρ none) H2 b) : own φ σ.heap b := by
  rcases h with h | h
  · rcases c.row_of h with ⟨r, x, hx, hφ⟩ | ⟨s, y, _, _, hy, hφ⟩
    · rcases c.hs.new r x b hx hφ with h | h
      · exact hand_own c.hh.h0 h
      · exact absurd hlt (Nat.not_lt.2 h)
    · exact .inl ⟨s, y, hy, hφ⟩
  · exact .inr (by simpa [backNm] using h)
theorem CameU.own_new {b kk : Nat} (hX : ¬ (hr.bc H g none).X b kk) (ho : ¬ own φ' H' b) : ¬ own (backNm φ φ' H' ρ none) H2 b := by
  rintro (h | h)
  · rcases c.row_of h with h | ⟨s, y, hn, hg, hy, hφ⟩
    · exact ho (.inl h)
    · exact hX (.inr ⟨.inl ⟨s, y, hy, hφ⟩, c.out_own hn hg hy hφ⟩)
  · have h : φ.T b := by simpa [backNm] using h
    refine hX (.inr ⟨.inr h, ?_⟩)
    rintro (h2 | h2)
    · exact (hr.heap.far b h).2.2 (hand_row c.hh.h0 h2)
    · simp [handNm] at h2
theorem CameU.lt1000 {s r0 : Nat} {x0' y : Row} (hg : s ∉ gs) (hx0 : hget H' r0 = some x0') (he : ρ r0 = s) (hy : hget σ.heap s = some y) : r0 < 1000 := by
  rcases Nat.lt_or_ge r0 1000 with h | h
  · exact h
  · rcases (c.hb.new r0 x0' hx0 h).1 with h1 | h1
    · rw [he, hy] at h1; cases h1
    · exact absurd (he ▸ h1) hg
theorem CameU.ext : ExtU gs w B.X φ σ.heap w' (backNm φ φ' H' ρ none) H2 := by
  have hsz := c.hs.keeps.size
  refine ⟨fun r x hg hx => ?_, fun b kk h => ⟨Nat.lt_of_lt_of_le h.1 hsz, h.2.1, fun ho => h.2.2 (c.own_old h.1 ho)⟩, fun b kk h => ⟨Nat.lt_of_lt_of_le h.1 hsz, fun ho => h.2 (c.own_old h.1 ho)⟩,
    fun b kk h => c.old h.1 (fun ho => h.2 (hand_own c.hh.h0 ho)), fun r x b hg hx hφ cs e f hcs => ?_⟩
  · by_cases hex : ∃ r0 x0, hget H' r0 = some x0 ∧ ρ r0 = r
    · obtain ⟨r0, x0', hx0, rfl⟩ := hex
      have hp := c.lt1000 hg hx0 rfl hx
      obtain ⟨x0, h1, h2, h3, h4, h5⟩ := c.handed hx0 hp
      have h6 := c.hh.h0.row r0 x0 h1
      rw [← h2, hx] at h6
      simp only [Option.some.injEq] at h6; subst h6
      refine ⟨x0'.ren ρ, c.hm.inn r0 x0' hx0, h3, fun hk => by simp only [Row.ren, renL_length]; exact h4 hk, ?_⟩
      rw [backNm_inU c.hb.inj hx0, h5, h2]
    · have hn : ∀ r0 x0, hget H' r0 = some x0 → ρ r0 ≠ r := fun r0 x0 h e => hex ⟨r0, x0, h, e⟩
      exact ⟨x, (c.hm.out r hn).trans (by rw [if_neg hg]; exact hx), rfl, fun _ => rfl, backNm_out hn⟩
  · have hw' : csz w' b = cs.size := by unfold csz; rw [hcs]
    have hcsz : csz w b = csz w' b → ∃ c0 e0 f0, w.heap[b]? = some (.cells c0 e0 f0) ∧ c0.size = cs.size := fun hcz => by
      obtain ⟨o, h1, h2⟩ := (hr.heap.rows r x b hx hφ).some
      cases o with
      | cells c0 e0 f0 => exact ⟨c0, e0, f0, h1, by rw [← hw', ← hcz]; unfold csz; rw [h1]⟩
      | map es cl =>
        exfalso
        have hk0 : x.k = 0 := Nat.eq_zero_of_not_pos fun hk => by
          obtain ⟨_, _, _, h3, _⟩ := (hr.heap.rows r x b hx hφ).here hk
          rw [h1] at h3; cases h3
        by_cases hex : ∃ r0 x0, hget H' r0 = some x0 ∧ ρ r0 = r
        · obtain ⟨r0, x0', hx0, rfl⟩ := hex
          have hp := c.lt1000 hg hx0 rfl hx
          obtain ⟨x0, h4, h5, h6, _, h7⟩ := c.handed hx0 hp
          have h8 := c.hh.h0.row r0 x0 h4
          rw [← h5, hx] at h8
          simp only [Option.some.injEq] at h8
          have h9 : x0'.k = 0 := by rw [h6, ← hk0, h8]; rfl
          obtain ⟨_, _, h10, _⟩ := (c.hs.heap.rows r0 x0' b hx0 (by rw [h7, ← h5]; exact hφ)).map h9
          rw [hcs] at h10; cases h10
        · have hn : ∀ r0 x0, hget H' r0 = some x0 → ρ r0 ≠ r := fun r0 x0 h e => hex ⟨r0, x0, h, e⟩
          have := c.old (hr.heap.lt hx hφ) (c.out_own hn hg hx hφ)
          rw [hcs, h1] at this; cases this
      | _ => cases h2
    refine hcsz ?_
    by_cases hex : ∃ r0 x0, hget H' r0 = some x0 ∧ ρ r0 = r
    · obtain ⟨r0, x0', hx0, rfl⟩ := hex
      have hp := c.lt1000 hg hx0 rfl hx
      obtain ⟨x0, h1, h2, h3, h4, h5⟩ := c.handed hx0 hp
      exact (c.hs.psz r0 x0' b hx0 (by simp [pinned, hp]) (by rw [h5, ← h2]; exact hφ)).symm
    · have hn : ∀ r0 x0, hget H' r0 = some x0 → ρ r0 ≠ r := fun r0 x0 h e => hex ⟨r0, x0, h, e⟩
      exact (csz_of (c.old (hr.heap.lt hx hφ) (c.out_own hn hg hx hφ))).symm
theorem CameU.okd {b kk : Nat} (h : okd w' (hr.bc H g none).X φ' H' b kk) : okd w' B.X (backNm φ φ' H' ρ none) H2 b kk := ⟨h.1, fun hX => h.2.1 (.inl hX), c.own_new h.2.1 h.2.2⟩
theorem CameU.val {v : Value} {p : PV} (hv : RepV w' (hr.bc H g none).X φ' H' v p) : clean p → refsIn H' p → RepV w' B.X (backNm φ φ' H' ρ none) H2 v (p.ren ρ) := by
  have hd : ∀ {v : Value} {x : PD}, RepD w' (Pv.okd w' (hr.bc H g none).X φ' H') v x → RepD w' (Pv.okd w' B.X (backNm φ φ' H' ρ none) H2) v x := fun h => h.mono (fun b k hb => c.okd hb) (fun _ _ _ => rfl)
  induction hv with
  | any v => intro _ _; simp only [PV.ren]; exact .any v
  | d h => intro _ _; simp only [PV.ren]; exact .d (hd h)
  | b h => intro h0 _; simp [clean] at h0
  | @ptr r i off b x hx hφ hk => intro _ _; simp only [PV.ren]; exact RepV.ptr (x := x.ren ρ) (c.hm.inn _ _ hx) ((backNm_inU c.hb.inj hx).trans hφ) hk
  | @mp r b x hx hφ hk => intro _ _; simp only [PV.ren]; exact RepV.mp (x := x.ren ρ) (c.hm.inn _ _ hx) ((backNm_inU c.hb.inj hx).trans hφ) hk
  | dptr h hi => intro _ _; simp only [PV.ren]; exact .dptr (hd h) hi
  | bptr h hi => intro h0 _; simp [clean] at h0
  | glob n => intro _ _; simp only [PV.ren]; exact .glob n
  | val hf => intro _ _; simp only [PV.ren]; exact .val hf
  | @slc r lo n cap b x hx hφ hk hn hc hl hz => intro _ _; simp only [PV.ren]; exact RepV.slc (x := x.ren ρ) (c.hm.inn _ _ hx) ((backNm_inU c.hb.inj hx).trans hφ) hk (by simpa [Row.ren, renL_length] using hn) hc (by simpa [Row.ren, renL_length] using hl) hz
  | @slc0 r x p hx hφ hk hp => intro _ _; simp only [PV.ren]; exact RepV.slc0 (x := x.ren ρ) (c.hm.inn _ _ hx) ((backNm_inU c.hb.inj hx).trans hφ) hk hp
  | func hs _ ih =>
    intro h0 h1
    simp only [clean] at h0; simp only [refsIn] at h1
    simp only [PV.ren]
    refine .func (by rw [renL_length]; exact hs) (fun i hi => ?_)
    rw [renL_length] at hi
    rw [renL_get _ _ i hi]
    exact ih i hi (cleanL_get h0 i hi) (refsInL_get h1 i hi)
  | agg hs _ hf ih =>
    intro h0 h1
    simp only [clean] at h0; simp only [refsIn] at h1
    simp only [PV.ren]
    refine .agg (by rw [renL_length]; exact hs) (fun i hi => ?_) (fun i hi => hf i (by rw [renL_length] at hi; exact hi))
    rw [renL_length] at hi
    rw [renL_get _ _ i hi]
    exact ih i hi (cleanL_get h0 i hi) (refsInL_get h1 i hi)
  | tuple hs _ ih =>
    intro h0 h1
    simp only [clean] at h0; simp only [refsIn] at h1
    simp only [PV.ren]
    refine .tuple (by rw [renL_length]; exact hs) (fun i hi => ?_)
    rw [renL_length] at hi
    rw [renL_get _ _ i hi]
    exact ih i hi (cleanL_get h0 i hi) (refsInL_get h1 i hi)
omit c in
theorem Dfr.extU {m : Nat → Prop} {gs : List Nat} {w w' : World} {X : Nat → Nat → Prop} {φ φ' : Nm} {H H' : Heap} {ds : List Deferred} {ps : List PV} (h : Dfr m w X φ H ds ps) (he : ExtU gs w X φ H w' φ' H') (hg : ∀ r ∈ rowsOfL ps, r ∉ gs) : Dfr m w' X φ' H' ds ps := by
  have := h.map (f := id) (fun D h => ⟨he.okd D 0 h, he.blk D 0 (okb_of_okd h)⟩) (fun p hp v hv => hv.extU he fun r hr => hg r (rowsOfL_mem' hp hr))
  simpa using this
omit c in
theorem GlobOk.extU {gs : List Nat} {G : List (Nat × PD)} {X : Nat → Nat → Prop} {w w' : World} {φ φ' : Nm} {H H' : Heap} (h : ExtU gs w X φ H w' φ' H') (hg : GlobOk G w X φ H) (hlt : ∀ g x, (g, x) ∈ G → ¬ own φ' H' g) : GlobOk G w' X φ' H' := by
  intro g x hm
  obtain ⟨c, e, f, v, h1, h2, h3, h4, h5⟩ := hg g x hm
  have hlt' : g < w.heap.size := (Array.getElem?_eq_some_iff.1 h1).1
  refine ⟨c, e, f, v, (h.blk g 0 ⟨hlt', h2⟩).trans h1, hlt g x hm, h3.mono h.okd (fun b k hb => h.blk b k (okb_of_okd hb)), h4, h5⟩
theorem CameU.rep : Rep G B N { σ with heap := H2 } a w' (backNm φ φ' H' ρ none) := by
  have he := c.ext
  have hsz := c.hs.keeps.size
  have hnewB : ∀ b, own φ σ.heap b → B.o0 b ∨ B.w0.heap.size ≤ b := fun b h => h.elim (fun ⟨r, x, h1, h2⟩ => hr.new r x b h1 h2) (fun h => hr.tnew b h)
  have hlt : ∀ {s y b}, hget σ.heap s = some y → φ s = some b → b < w.heap.size := fun h1 h2 => hr.heap.lt h1 h2
  have hout : ∀ {s y}, hget H2 s = some y → (∀ r x, hget H' r = some x → ρ r ≠ s) → s ∉ gs ∧ hget σ.heap s = some y := fun {s y} h hn => by
    rw [c.hm.out s hn] at h
    split at h
    · cases h
    · rename_i hg; exact ⟨hg, h⟩
  have hT0 : (backNm φ φ' H' ρ none).T = φ.T := by funext b; simp [backNm]
  refine ⟨hr.size, fun t => (hr.env t).extU he (fun r hr' hg => c.hh.env r hg t hr'), ⟨fun s y b hs hb => ?_, fun s y hs hb => ?_, fun s t y z b hs ht hb hb' => ?_, fun b hT => ?_⟩, ⟨c.hs.keeps.os.trans hr.keeps.os, c.hs.keeps.tape.trans hr.keeps.tape, c.hs.keeps.output.trans hr.keeps.output, Nat.le_trans hr.keeps.size hsz, fun b hb ho => ?_⟩,
    fun s y b hs hb => ?_, fun s y hs hp => ?_, fun s y b hs hp hb => ?_, hr.glob.extU he (fun n x hm => ?_), fun b hT => ?_, ?_, hr.dfr.extU he (fun r hr' hg => c.hh.dfr r hg hr')⟩
  -- rows
  · by_cases hex : ∃ r x, hget H' r = some x ∧ ρ r = s
    · obtain ⟨r, x, hx, rfl⟩ := hex
      rw [backNm_inU c.hb.inj hx] at hb
      have hs' := c.hm.inn r x hx
      rw [hs] at hs'; simp only [Option.some.injEq] at hs'; subst hs'
      refine (c.hs.heap.rows r x b hx hb).turn rfl rfl (by simp [Row.ren, renL_length]) (fun _ _ h => h) (fun kk hX => (c.hs.heap.rows r x b hx hb).free kk (.inl hX)) (fun i hi' _ v h4 => ?_) fun z hz => by simp only [Row.ren, renL_map]; exact hz.map fun p hp => ren_byte ρ hp
      have := c.val h4 (cleanL_get (c.hb.refs r x hx).2 i hi') (refsInL_get (c.hb.refs r x hx).1 i hi')
      simp only [Row.ren]
      rw [renL_get _ _ i hi']
      exact this
    · have hn : ∀ r x, hget H' r = some x → ρ r ≠ s := fun r x h e => hex ⟨r, x, h, e⟩
      obtain ⟨hg, hs⟩ := hout hs hn
      rw [backNm_out hn] at hb
      have hnH : ∀ r x, hget H r = some x → g r ≠ s := fun r x hx e => by
        rcases Nat.lt_or_ge r 1000 with h | h
        · obtain ⟨x', hx'⟩ := c.hb.all r x hx h
          obtain ⟨_, _, h2, _⟩ := c.hb.old r x' hx' h
          exact hn r x' hx' (h2.trans e)
        · exact hg (e ▸ c.hh.giv r x hx h)
      exact (hr.heap.rows s y b hs hb).turn rfl rfl rfl (fun _ _ h => (c.old (hlt hs hb) (c.out_own hn hg hs hb)).trans h) (hr.heap.rows s y b hs hb).free (fun i hi _ v hv => hv.extU he fun r hr' hgr => c.hh.out r hgr s y hs hnH (rowsOfL_mem hi hr')) fun _ h => h
  · by_cases hex : ∃ r x, hget H' r = some x ∧ ρ r = s
    · obtain ⟨r, x, hx, rfl⟩ := hex
      rw [backNm_inU c.hb.inj hx] at hb
      have hs' := c.hm.inn r x hx
      rw [hs] at hs'; simp only [Option.some.injEq] at hs'; subst hs'
      simp only [Row.ren, c.hs.heap.void r x hx hb, renL]
    · have hn : ∀ r x, hget H' r = some x → ρ r ≠ s := fun r x h e => hex ⟨r, x, h, e⟩
      rw [backNm_out hn] at hb
      exact hr.heap.void s y (hout hs hn).2 hb
  -- no two rows in one block
  · have key : ∀ {s t : Nat} {y z : Row}, (∃ r x, hget H' r = some x ∧ ρ r = s) → (∀ r x, hget H' r = some x → ρ r ≠ t) → hget H2 t = some z → (backNm φ φ' H' ρ none) s = some b → (backNm φ φ' H' ρ none) t = some b → False := by
      rintro s t y z ⟨r, x, hx, rfl⟩ hn ht h1 h2
      rw [backNm_inU c.hb.inj hx] at h1
      rw [backNm_out hn] at h2
      obtain ⟨hg, ht⟩ := hout ht hn
      rcases c.hs.new r x b hx h1 with h | h
      · exact c.out_own hn hg ht h2 h
      · exact absurd (hlt ht h2) (Nat.not_lt.2 h)
    by_cases h1 : ∃ r x, hget H' r = some x ∧ ρ r = s <;> by_cases h2 : ∃ r x, hget H' r = some x ∧ ρ r = t
    · obtain ⟨r, x, hx, rfl⟩ := h1
      obtain ⟨r', x', hx', rfl⟩ := h2
      rw [backNm_inU c.hb.inj hx] at hb
      rw [backNm_inU c.hb.inj hx'] at hb'
      rw [c.hs.heap.inj r r' x x' b hx hx' hb hb']
    · exact (key (y := y) h1 (fun r x h e => h2 ⟨r, x, h, e⟩) ht hb hb').elim
    · exact (key (y := z) h2 (fun r x h e => h1 ⟨r, x, h, e⟩) hs hb' hb).elim
    · have hn1 : ∀ r x, hget H' r = some x → ρ r ≠ s := fun r x h e => h1 ⟨r, x, h, e⟩
      have hn2 : ∀ r x, hget H' r = some x → ρ r ≠ t := fun r x h e => h2 ⟨r, x, h, e⟩
      rw [backNm_out hn1] at hb
      rw [backNm_out hn2] at hb'
      exact hr.heap.inj s t y z b (hout hs hn1).2 (hout ht hn2).2 hb hb'
  -- what is somebody else's
  · rw [hT0] at hT
    obtain ⟨h1, h2, h3⟩ := hr.heap.far b hT
    refine ⟨Nat.lt_of_lt_of_le h1 hsz, h2, fun h => ?_⟩
    rcases c.row_of h with ⟨r, x, hx, hφ⟩ | ⟨s, y, hn, _, hy, hφ⟩
    · rcases c.hs.new r x b hx hφ with h | h
      · rcases h with h | h
        · exact h3 (hand_row c.hh.h0 h)
        · simp [handNm] at h
      · exact absurd h1 (Nat.not_lt.2 h)
    · exact h3 ⟨s, y, hy, hφ⟩
  · refine (c.old (Nat.lt_of_lt_of_le hb hr.keeps.size) (fun h => ?_)).trans (hr.keeps.block b hb ho)
    rcases hnewB b (hand_own c.hh.h0 h) with h | h
    · exact ho h
    · omega
  -- new
  · by_cases hex : ∃ r x, hget H' r = some x ∧ ρ r = s
    · obtain ⟨r, x, hx, rfl⟩ := hex
      rw [backNm_inU c.hb.inj hx] at hb
      rcases c.hs.new r x b hx hb with h | h
      · exact hnewB b (hand_own c.hh.h0 h)
      · exact .inr (Nat.le_trans hr.keeps.size h)
    · have hn : ∀ r x, hget H' r = some x → ρ r ≠ s := fun r x h e => hex ⟨r, x, h, e⟩
      rw [backNm_out hn] at hb
      exact hr.new s y b (hout hs hn).2 hb
  · by_cases hex : ∃ r x, hget H' r = some x ∧ ρ r = s
    · obtain ⟨r, x, hx, rfl⟩ := hex
      rw [backNm_inU c.hb.inj hx]
      rcases Nat.lt_or_ge r 1000 with h | h
      · obtain ⟨x0, h1, h2, _, _, h5⟩ := c.handed hx h
        rw [h5, h2]
        exact hr.pins _ _ (c.hh.h0.row r x0 h1) (h2 ▸ hp)
      · have := (c.hb.new r x hx h).2
        simp only [pinned, decide_eq_true_eq] at hp; omega
    · have hn : ∀ r x, hget H' r = some x → ρ r ≠ s := fun r x h e => hex ⟨r, x, h, e⟩
      rw [backNm_out hn]
      exact hr.pins s y (hout hs hn).2 hp
  · by_cases hex : ∃ r x, hget H' r = some x ∧ ρ r = s
    · obtain ⟨r, x, hx, rfl⟩ := hex
      rw [backNm_inU c.hb.inj hx] at hb
      rcases Nat.lt_or_ge r 1000 with h | h
      · obtain ⟨x0, h1, h2, _, _, h5⟩ := c.handed hx h
        exact (c.hs.psz r x b hx (by simp [pinned, h]) hb).trans (hr.psz _ _ b (c.hh.h0.row r x0 h1) (h2 ▸ hp) (by rw [← h5]; exact hb))
      · have := (c.hb.new r x hx h).2
        simp only [pinned, decide_eq_true_eq] at hp; omega
    · have hn : ∀ r x, hget H' r = some x → ρ r ≠ s := fun r x h e => hex ⟨r, x, h, e⟩
      obtain ⟨hg, hs⟩ := hout hs hn
      rw [backNm_out hn] at hb
      exact (csz_of (c.old (hlt hs hb) (c.out_own hn hg hs hb))).trans (hr.psz s y b hs hp hb)
  · obtain ⟨cs, e, f, v, h1, h2, _⟩ := hr.glob n x hm
    exact fun ho => h2 (c.own_old (Array.getElem?_eq_some_iff.1 h1).1 ho)
  · exact hr.tnew b (hT0 ▸ hT)
  -- the loop's body
  · refine J_step (w := w) (φ := φ) (H := σ.heap) hr.inv hT0 c.hs.keeps.os c.hs.keeps.tape c.hs.keeps.output hsz (fun b hlt hn => c.old hlt fun ho => ?_) (fun b h => ?_)
    · rcases ho with h | h
      · exact hn (hand_row c.hh.h0 h)
      · simp [handNm] at h
    · rcases c.row_of h with ⟨r, x, hx, hφ⟩ | ⟨s, y, hn, _, hy, hφ⟩
      · rcases c.hs.new r x b hx hφ with h | h
        · rcases h with h | h
          · exact .inl (hand_row c.hh.h0 h)
          · simp [handNm] at h
        · exact .inr h
      · exact .inl ⟨s, y, hy, hφ⟩
end
section
variable {P : Program} {G : List (Nat × PD)} {ro : Option Nat} {B : Base P} {N : Nat} {σ τ : St} {a : Act} {w w' : World} {φ φ' : Nm} {H H' H2 : Heap} {g ρ : Nat → Nat} {gs : List Nat} {o : Oper} {K : St → Prop}
theorem OpT.callU {c : Call} {f : FuncId} {xo : Operand} {caps args : List PV} {Post : PV → Heap → Prop} (ho : o.op = .call c) (hc : c.callee = .value xo) (hx : calleeV (σ.eval xo) = some (f, caps)) (hcal : callable P f = true)
    (hf : Fn P G f args H Post) (hh : HandU σ H g gs) (ha : handsOk σ.heap H g (evalL σ c.args.toList ++ caps) args) (hd : dstOk N o.dst)
    (hK : ∀ p H', Post p H' → ∃ ρ, BackU σ H H' g ρ gs ∧ clean p ∧ refsIn H' p ∧ K (({ σ with heap := hmerge ρ H' (hdrop gs σ.heap) } : St).put o.dst (p.ren ρ))) : OpT P G ro N o σ K := by
  intro B hro a w φ hr next Q hn
  obtain ⟨vs, hv1, hv2, hv3⟩ := calleeV_ok hx (hr.eval xo)
  obtain ⟨h1, h2⟩ := handsOk_get ha
  obtain ⟨h3, h4⟩ := args_caps hr (ops := c.args.toList) hv2 hv3
  have hcall := hf (hr.bc H g none) (handNm φ H g none) (c.args.toList.map a.eval ++ vs.toList) rfl (h3.trans h1) (fun i hi => handOk_ok hr hh.h0 (h4 i (h1 ▸ hi)) (h2 i (h1 ▸ hi) hi)) (hr.hand hh.h0 (.inl rfl))
  have hrun : (o.semAt ro a.eval).run P w = .ok (.enter f (c.args.toList.map a.eval ++ vs.toList).toArray) w := by
    rw [Oper.semAt_eq _ _ _ (fun c hc => by rw [ho] at hc; cases hc)]
    have e1 : (c.args.toList.map a.eval ++ vs.toList).toArray = c.args.map a.eval ++ vs := by
      apply Array.toList_inj.1; simp
    have e2 : (#[] ++ c.args.map a.eval ++ vs : Array Value) = c.args.map a.eval ++ vs := by simp
    simp only [execOp, ho, resolve, hc, hv1, Deferred.ofValue, Sem.run_bind, Sem.run_pure, Result.andThen_ok, invoke, e1, e2]
    exact run_callFunc hcal _ w
  refine ⟨fun _ _ => trivial, ?_⟩
  show o.uponIn (Fw ro) 0 P a next Q ((o.semAt ro a.eval).run P w)
  rw [hrun]
  refine ⟨fun h => (by cases h), ?_⟩
  refine CallsIn.mono (R := fun e w' => ∃ v p H' g' φ', e = .returned v ∧ Post p H' ∧ RepV w' (hr.bc H g none).X φ' H' v p ∧ Sit G (hr.bc H g none) w' φ' H' g') hcall ?_
  rintro e w' ⟨v, p, H', g', φ', rfl, hP, h5, h6⟩
  obtain ⟨ρ, hb, hcl, href, hKp⟩ := hK p H' hP
  have cm : CameU hr H H' (hmerge ρ H' (hdrop gs σ.heap)) g ρ gs g' w' φ' := ⟨hh, hb, hb.merged, h6⟩
  exact hn _ _ _ _ hKp (cm.rep.put hd (cm.val h5 hcl href))
end
end Go.Pv

namespace Go.Pv
def ObjFn (P : Program) (G : List (Nat × PD)) (f : FuncId) (args : List PV) (H : Heap) (res : PV) (H' : Heap) : Prop := Fn P G f args H fun p K => p = res ∧ K = H'
@[go_sem] theorem mels_nil {α β : Type} (k : α → PD) (v : β → PD) : mels k v [] = [] := rfl
@[go_sem] theorem mels_ren {α β : Type} (ρ : Nat → Nat) (k : α → PD) (v : β → PD) (L : List (α × β)) : renL ρ (mels k v L) = mels k v L := by
  induction L with
  | nil => simp [mels, renL]
  | cons e l ih => simp only [mels, List.map_cons, renL] at ih ⊢; rw [ih]; simp [ment, PV.ren, renL]
@[go_sem] theorem mels_clean {α β : Type} (k : α → PD) (v : β → PD) (L : List (α × β)) : cleanL (mels k v L) = True := by
  induction L with
  | nil => simp [mels, cleanL]
  | cons e l ih => simp only [mels, List.map_cons, cleanL] at ih ⊢; rw [ih]; simp [ment, clean, cleanL]
@[go_sem] theorem mels_rows {α β : Type} (k : α → PD) (v : β → PD) (L : List (α × β)) : rowsOfL (mels k v L) = [] := by
  induction L with
  | nil => simp [mels, rowsOfL]
  | cons e l ih => simp only [mels, List.map_cons, rowsOfL] at ih ⊢; rw [ih]; simp [ment, rowsOf, rowsOfL]
@[go_sem] theorem mels_kill {α β : Type} (r : Nat) (k : α → PD) (v : β → PD) (L : List (α × β)) : killL r (mels k v L) = mels k v L := by
  induction L with
  | nil => simp [mels, killL]
  | cons e l ih => simp only [mels, List.map_cons, killL] at ih ⊢; rw [ih]; simp [ment, PV.kill, killL]
@[go_sem] theorem mels_refs {α β : Type} (H : Heap) (k : α → PD) (v : β → PD) (L : List (α × β)) : refsInL H (mels k v L) = True := by
  induction L with
  | nil => simp [mels, refsInL]
  | cons e l ih => simp only [mels, List.map_cons, refsInL] at ih ⊢; rw [ih]; simp [ment, refsIn, refsInL]
@[go_sem] theorem mels_length {α β : Type} (k : α → PD) (v : β → PD) (L : List (α × β)) : (mels k v L).length = L.length := by simp [mels]
def optP (b : Bool) (r : Nat) : PV := match b with
  | true => .ptr r 0 0
  | false => .d .nilptr
def optRows (b : Bool) (r : Nat) : List Nat := match b with
  | true => [r]
  | false => []
@[go_sem] theorem optP_ren (g : Nat → Nat) (b : Bool) (r : Nat) : (optP b r).ren g = optP b (g r) := by cases b <;> simp [optP, PV.ren]
@[go_sem] theorem optP_kill (q : Nat) (b : Bool) (r : Nat) : (optP b r).kill q = if r = q then (match b with | true => .any | false => .d .nilptr) else optP b r := by
  cases b <;> simp [optP, PV.kill]
@[go_sem] theorem optP_clean (b : Bool) (r : Nat) : clean (optP b r) = True := by cases b <;> simp [optP, clean]
@[go_sem] theorem optP_refs {H : Heap} {b : Bool} {r : Nat} (h : (hget H r).isSome = true) : refsIn H (optP b r) = True := by cases b <;> simp [optP, refsIn, h]
@[go_sem] theorem optP_rows (b : Bool) (r : Nat) : rowsOf (optP b r) = optRows b r := by cases b <;> simp [optP, rowsOf, optRows]
@[go_sem] theorem optP_cells (b : Bool) (r : Nat) : pvCells (optP b r) = some [optP b r] := by cases b <;> rfl
@[go_sem] theorem optP_sb (b : Bool) (r : Nat) : isByte (optP b r) = false := by cases b <;> rfl
theorem optAgg_free {b : Bool} {r q : Nat} {l : List PV} (h : (r == q) = false) (h2 : (rowsOfL l).contains q = false) : (rowsOfL [PV.agg (optP b r :: l)]).contains q = false := by
  have e : rowsOfL [PV.agg (optP b r :: l)] = optRows b r ++ rowsOfL l := by simp [rowsOfL, rowsOf, optP_rows]
  rw [e]
  have hne : r ≠ q := by simpa using h
  have h2' : q ∉ rowsOfL l := by simpa using h2
  cases b <;> simp [optRows, h2', Ne.symm hne]
section
variable {P : Program} {G : List (Nat × PD)} {ro : Option Nat} {N : Nat} {ops : Array Oper} {σ τ σ' : St} {o : Oper} {rest : List Oper}
theorem ObjFn.pf {f : FuncId} {fn : Func} {c : Code} {args : List PV} {H H' : Heap} {res : PV} {n : Nat} {e0 : List (Nat × PV)} (hf : P.funcs[f]? = some fn) (hn : fn.ntmps = n)
    (h : AWp P G none n c ⟨e0, H, [], none⟩ (Fin P G fn fun p K => p = res ∧ heapLe H' K)) (hb : fn.body = some c := by rfl) (hN : args.length ≤ n := by simp)
    (he : argEnv 0 args = e0 := by (simp only [argEnv, Nat.reduceAdd, Nat.zero_add]; rfl)) (hrf : refsIn H' res := by first | exact trivial | exact rfl | (simp only [go_sem, ↓reduceIte]; done))
    (hrh : heapRefs H' H' := by (repeat' (first | exact trivial | exact row_refs _ _ | exact rfl | exact dyR rfl | exact dyS rfl | refine heapLe_dyn rfl ?_ | refine heapRefs_dyn ?_ | exact nelF_refs (by repeat' (first | exact trivial | decide | apply And.intro)) | exact dyBR rfl | exact dyBS rfl | refine heapLe_dynBH rfl ?_ | refine heapRefs_dynBH ?_ | exact nelB_refs (by repeat' (first | exact trivial | decide | apply And.intro)) | exact nelB_refs_hole (by repeat' (first | exact trivial | decide | apply And.intro)) (by repeat' (first | exact trivial | exact dyBS rfl | apply And.intro)) | apply And.intro | (simp only [go_sem, ↓reduceIte]; done)))) : ObjFn P G f args H res H' := by
  subst hn he
  intro B φ vs h0 h1 h2 h3
  refine (Fn.intro hf hb hN h B φ vs h0 h1 h2 h3).mono ?_
  rintro e' w' ⟨v, p, K, g', φ', he, ⟨rfl, hle⟩, hv, hs⟩
  exact ⟨v, _, H', g', φ', he, ⟨rfl, rfl⟩, hv.less (fun r x hx => heapLe_get hle r x hx) hrf, hs.less (fun r x hx => heapLe_get hle r x hx) (fun r x hx => heapRefs_get hrh r x hx)⟩
theorem rtO {fn : Func} {p res : PV} {H' : Heap} (hp : resV P G fn.results.toList σ = some p := by (simp only [go_sem, List.length_append, List.length_set, List.length_replicate, ↓reduceIte]; rfl))
    (hd : σ.dfr = [] := by first | exact True.intro | rfl) (hpr : p = res := by first | rfl | (simp only [go_sem, lenc_nil, lenc_cons, ↓reduceIte]; done))
    (hle : heapLe H' σ.heap := by (repeat' (first | exact trivial | exact rfl | exact dyR rfl | exact dyS rfl | refine heapLe_dyn rfl ?_ | refine heapRefs_dyn ?_ | exact nelF_refs (by repeat' (first | exact trivial | decide | apply And.intro)) | exact dyBR rfl | exact dyBS rfl | refine heapLe_dynBH rfl ?_ | refine heapRefs_dynBH ?_ | exact nelB_refs (by repeat' (first | exact trivial | decide | apply And.intro)) | exact nelB_refs_hole (by repeat' (first | exact trivial | decide | apply And.intro)) (by repeat' (first | exact trivial | exact dyBS rfl | apply And.intro)) | (simp only [List.length_append, List.length_set, List.length_replicate, List.length_cons, List.length_nil, Nat.zero_add] <;> first | exact rfl | exact dyBR rfl) | apply And.intro))) : Fin P G fn (fun p K => p = res ∧ heapLe H' K) .ret σ := ⟨p, hp, hd, hpr, hle⟩
def handLU (Hc : Heap) (g : Nat → Nat) (H0 : Heap) : Heap → Prop
  | [] => True
  | (r, x) :: l => (hget Hc (g r) = some (x.ren g) ∧ refsInL H0 x.els) ∧ handLU Hc g H0 l
def givL (g : Nat → Nat) (gs : List Nat) : Heap → Prop
  | [] => True
  | (r, _) :: l => (if r < 1000 then gs.contains (g r) = false else gs.contains (g r) = true) ∧ givL g gs l
def imgL (g : Nat → Nat) (H : Heap) : List Nat → Prop
  | [] => True
  | s :: l => ((H.any fun x => g x.1 == s) = true ∧ 1000 ≤ s) ∧ imgL g H l
def freeEnv (gs : List Nat) : List (Nat × PV) → Prop
  | [] => True
  | (_, v) :: l => ((rowsOf v).any fun r => gs.contains r) = false ∧ freeEnv gs l
def freeHeap (g : Nat → Nat) (H : Heap) (gs : List Nat) : Heap → Prop
  | [] => True
  | (s, x) :: l => ((H.any fun y => g y.1 == s) = true ∨ ((rowsOfL x.els).any fun r => gs.contains r) = false) ∧ freeHeap g H gs l
def backLU (H : Heap) (g : Nat → Nat) (gs : List Nat) (H0 : Heap) : Heap → Prop
  | [] => True
  | (r, x) :: l => ((if r < 1000 then match hget H r with
      | some y => x.k = y.k ∧ (x.k = 0 ∨ x.els.length = y.els.length)
      | none => False
    else gs.contains (g r) = true ∧ 1000 ≤ g r) ∧ refsInL H0 x.els ∧ cleanL x.els) ∧ backLU H g gs H0 l
theorem handLU_get {Hc : Heap} {g : Nat → Nat} {H0 : Heap} : ∀ {l : Heap}, handLU Hc g H0 l → ∀ r x, hget l r = some x → hget Hc (g r) = some (x.ren g) ∧ refsInL H0 x.els
  | [], _, r, x, h => by simp [hget] at h
  | (s, y) :: l, h, r, x, hx => by
    simp only [hget] at hx
    split at hx
    · rename_i e; subst e; cases hx; exact h.1
    · exact handLU_get h.2 r x hx
theorem givL_get {g : Nat → Nat} {gs : List Nat} : ∀ {l : Heap}, givL g gs l → ∀ r x, hget l r = some x → if r < 1000 then g r ∉ gs else g r ∈ gs
  | [], _, r, x, h => by simp [hget] at h
  | (s, y) :: l, h, r, x, hx => by
    simp only [hget] at hx
    split at hx
    · rename_i e; subst e
      have := h.1
      split at this <;> rename_i hlt
      · rw [if_pos hlt]; simpa using this
      · rw [if_neg hlt]; simpa using this
    · exact givL_get h.2 r x hx
theorem hget_of_any {g : Nat → Nat} {s : Nat} : ∀ {H : Heap}, (H.any fun x => g x.1 == s) = true → ∃ r x, hget H r = some x ∧ g r = s
  | [], h => by simp at h
  | (r, x) :: l, h => by
    by_cases hr : g r = s
    · exact ⟨r, x, by simp [hget], hr⟩
    · have : (l.any fun x => g x.1 == s) = true := by simpa [hr] using h
      obtain ⟨r', x', h1, h2⟩ := hget_of_any this
      have hne : r ≠ r' := fun e => hr (e ▸ h2)
      exact ⟨r', x', by simp only [hget, if_neg hne]; exact h1, h2⟩
theorem imgL_get {g : Nat → Nat} {H : Heap} : ∀ {l : List Nat}, imgL g H l → ∀ s ∈ l, (∃ r x, hget H r = some x ∧ g r = s) ∧ 1000 ≤ s
  | s0 :: l, h, s, hs => by
    rcases List.mem_cons.1 hs with rfl | hs
    · exact ⟨hget_of_any h.1.1, h.1.2⟩
    · exact imgL_get h.2 s hs
theorem not_of_any {gs l : List Nat} (h : (l.any fun r => gs.contains r) = false) : ∀ s ∈ gs, s ∉ l := fun s hs hl => by
  have : (l.any fun r => gs.contains r) = true := List.any_eq_true.2 ⟨s, hl, by simpa using hs⟩
  rw [h] at this; cases this
theorem freeEnv_get {gs : List Nat} : ∀ {e : List (Nat × PV)}, freeEnv gs e → ∀ s ∈ gs, ∀ t, s ∉ rowsOf (eget e t)
  | [], _, s, _, t => by simp [eget, rowsOf]
  | (u, v) :: l, h, s, hs, t => by
    simp only [eget]
    split
    · exact not_of_any h.1 s hs
    · exact freeEnv_get h.2 s hs t
theorem freeHeap_get {g : Nat → Nat} {H : Heap} {gs : List Nat} : ∀ {l : Heap}, freeHeap g H gs l → ∀ s ∈ gs, ∀ t y, hget l t = some y → (∀ r x, hget H r = some x → g r ≠ t) → s ∉ rowsOfL y.els
  | [], _, s, _, t, y, h, _ => by simp [hget] at h
  | (u, v) :: l, h, s, hs, t, y, hy, hn => by
    simp only [hget] at hy
    split at hy
    · rename_i e; subst e; cases hy
      rcases h.1 with h1 | h1
      · obtain ⟨r, x, h2, h3⟩ := hget_of_any h1
        exact absurd h3 (hn r x h2)
      · exact not_of_any h1 s hs
    · exact freeHeap_get h.2 s hs t y hy hn
theorem backLU_get {H : Heap} {g : Nat → Nat} {gs : List Nat} {H0 : Heap} : ∀ {l : Heap}, backLU H g gs H0 l → ∀ r x, hget l r = some x → (if r < 1000 then match hget H r with
      | some y => x.k = y.k ∧ (x.k = 0 ∨ x.els.length = y.els.length)
      | none => False
    else gs.contains (g r) = true ∧ 1000 ≤ g r) ∧ refsInL H0 x.els ∧ cleanL x.els
  | [], _, r, x, h => by simp [hget] at h
  | (s, y) :: l, h, r, x, hx => by
    simp only [hget] at hx
    split at hx
    · rename_i e; subst e; cases hx; exact h.1
    · exact backLU_get h.2 r x hx
theorem clU {f : FuncId} {c : Call} {xo : Operand} {caps args : List PV} {res : PV} {H H' : Heap} {Q : St → Prop} (gl : List (Nat × Nat)) (gs : List Nat) (hf : ObjFn P G f args H res H') (h2 : AOps P G ro N ops rest σ' Q)
    (hd : dstOk N o.dst := by (simp only [go_sem, ↓reduceIte]; done)) (hg : ∀ {K : St → Prop}, OpT P G ro N o σ K → vcOpC P G ro N (dsts ops) o σ K := by (intro K k; simp (disch := omega) only [go_sem, ↓reduceIte]; exact k))
    (ho : o.op = .call c := by rfl) (hc : c.callee = .value xo := by rfl) (hx : calleeV (σ.eval xo) = some (f, caps) := by rfl) (hcal : callable P f = true := by kernel_rfl)
    (hrow : handLU σ.heap (renOf gl) H H := by (simp only [handLU, Row.ren, go_sem, ↓reduceIte]; (repeat' (first | exact trivial | exact rfl | exact dyR rfl | exact dyS rfl | refine heapLe_dyn rfl ?_ | refine heapRefs_dyn ?_ | exact nelF_refs (by repeat' (first | exact trivial | decide | apply And.intro)) | exact dyBR rfl | exact dyBS rfl | refine heapLe_dynBH rfl ?_ | refine heapRefs_dynBH ?_ | exact nelB_refs (by repeat' (first | exact trivial | decide | apply And.intro)) | exact nelB_refs_hole (by repeat' (first | exact trivial | decide | apply And.intro)) (by repeat' (first | exact trivial | exact dyBS rfl | apply And.intro)) | (simp only [List.length_append, List.length_set, List.length_replicate, List.length_cons, List.length_nil, Nat.zero_add] <;> exact rfl) | apply And.intro))))
    (hinj : injL (renOf gl) H := by (simp only [injL, injOne, go_sem, ↓reduceIte]; (repeat' (first | exact trivial | (intro h; cases h; done) | apply And.intro))))
    (hgs : givL (renOf gl) gs H := by (simp only [givL, go_sem, ↓reduceIte]; (repeat' (first | exact trivial | exact rfl | exact dyR rfl | exact dyS rfl | refine heapLe_dyn rfl ?_ | refine heapRefs_dyn ?_ | exact nelF_refs (by repeat' (first | exact trivial | decide | apply And.intro)) | exact dyBR rfl | exact dyBS rfl | refine heapLe_dynBH rfl ?_ | refine heapRefs_dynBH ?_ | exact nelB_refs (by repeat' (first | exact trivial | decide | apply And.intro)) | exact nelB_refs_hole (by repeat' (first | exact trivial | decide | apply And.intro)) (by repeat' (first | exact trivial | exact dyBS rfl | apply And.intro)) | apply And.intro))))
    (him : imgL (renOf gl) H gs := by (repeat' (first | exact trivial | exact rfl | exact dyR rfl | exact dyS rfl | refine heapLe_dyn rfl ?_ | refine heapRefs_dyn ?_ | exact nelF_refs (by repeat' (first | exact trivial | decide | apply And.intro)) | exact dyBR rfl | exact dyBS rfl | refine heapLe_dynBH rfl ?_ | refine heapRefs_dynBH ?_ | exact nelB_refs (by repeat' (first | exact trivial | decide | apply And.intro)) | exact nelB_refs_hole (by repeat' (first | exact trivial | decide | apply And.intro)) (by repeat' (first | exact trivial | exact dyBS rfl | apply And.intro)) | decide | apply And.intro)))
    (henv : freeEnv gs σ.env := by (repeat' (first | exact trivial | exact rfl | exact dyR rfl | exact dyS rfl | refine heapLe_dyn rfl ?_ | refine heapRefs_dyn ?_ | exact nelF_refs (by repeat' (first | exact trivial | decide | apply And.intro)) | exact dyBR rfl | exact dyBS rfl | refine heapLe_dynBH rfl ?_ | refine heapRefs_dynBH ?_ | exact nelB_refs (by repeat' (first | exact trivial | decide | apply And.intro)) | exact nelB_refs_hole (by repeat' (first | exact trivial | decide | apply And.intro)) (by repeat' (first | exact trivial | exact dyBS rfl | apply And.intro)) | apply And.intro)))
    (hdfr : ((rowsOfL σ.dfr).any fun r => gs.contains r) = false := by rfl)
    (hout : freeHeap (renOf gl) H gs σ.heap := by (repeat' (first | exact trivial | exact .inl rfl | exact .inr rfl | exact .inr (by simp only [go_sem, List.any_nil]) | apply And.intro)))
    (ha : handsOk σ.heap H (renOf gl) (evalL σ c.args.toList ++ caps) args := by (repeat' (first | exact trivial | exact rfl | exact dyR rfl | exact dyS rfl | refine heapLe_dyn rfl ?_ | refine heapRefs_dyn ?_ | exact nelF_refs (by repeat' (first | exact trivial | decide | apply And.intro)) | exact dyBR rfl | exact dyBS rfl | refine heapLe_dynBH rfl ?_ | refine heapRefs_dynBH ?_ | exact nelB_refs (by repeat' (first | exact trivial | decide | apply And.intro)) | exact nelB_refs_hole (by repeat' (first | exact trivial | decide | apply And.intro)) (by repeat' (first | exact trivial | exact dyBS rfl | apply And.intro)) | apply And.intro | (simp only [go_sem, ↓reduceIte]; done))))
    (hback : backLU H (renOf gl) gs H' H' := by (simp only [backLU, go_sem, ↓reduceIte]; (repeat' (first | exact trivial | exact rfl | exact dyR rfl | exact dyS rfl | refine heapLe_dyn rfl ?_ | refine heapRefs_dyn ?_ | exact nelF_refs (by repeat' (first | exact trivial | decide | apply And.intro)) | exact dyBR rfl | exact dyBS rfl | refine heapLe_dynBH rfl ?_ | refine heapRefs_dynBH ?_ | exact nelB_refs (by repeat' (first | exact trivial | decide | apply And.intro)) | exact nelB_refs_hole (by repeat' (first | exact trivial | decide | apply And.intro)) (by repeat' (first | exact trivial | exact dyBS rfl | apply And.intro)) | exact .inl trivial | exact .inl rfl | exact .inr rfl | decide | apply And.intro))))
    (hall : allIn H' H := by (repeat' (first | exact trivial | exact rfl | exact dyR rfl | exact dyS rfl | refine heapLe_dyn rfl ?_ | refine heapRefs_dyn ?_ | exact nelF_refs (by repeat' (first | exact trivial | decide | apply And.intro)) | exact dyBR rfl | exact dyBS rfl | refine heapLe_dynBH rfl ?_ | refine heapRefs_dynBH ?_ | exact nelB_refs (by repeat' (first | exact trivial | decide | apply And.intro)) | exact nelB_refs_hole (by repeat' (first | exact trivial | decide | apply And.intro)) (by repeat' (first | exact trivial | exact dyBS rfl | apply And.intro)) | apply And.intro)))
    (hinj2 : injL (renOf gl) H' := by (simp only [injL, injOne, go_sem, ↓reduceIte]; (repeat' (first | exact trivial | (intro h; cases h; done) | apply And.intro))))
    (hp : ({ σ with heap := hmerge (renOf gl) H' (hdrop gs σ.heap) } : St).put o.dst (res.ren (renOf gl)) = σ' := by (simp only [hdrop, Row.ren, go_sem, ↓reduceIte]; rfl))
    (hcl : clean res := by (simp only [clean, cleanL, and_self]; done)) (hrf : refsIn H' res := by (first | exact trivial | exact rfl | exact dyR rfl | exact dyS rfl | refine heapLe_dyn rfl ?_ | refine heapRefs_dyn ?_ | exact nelF_refs (by repeat' (first | exact trivial | decide | apply And.intro)) | exact dyBR rfl | exact dyBS rfl | refine heapLe_dynBH rfl ?_ | refine heapRefs_dynBH ?_ | exact nelB_refs (by repeat' (first | exact trivial | decide | apply And.intro)) | exact nelB_refs_hole (by repeat' (first | exact trivial | decide | apply And.intro)) (by repeat' (first | exact trivial | exact dyBS rfl | apply And.intro)) | (simp only [go_sem, ↓reduceIte]; done))) :
    AOps P G ro N ops (o :: rest) σ Q := by
  refine AOps.consC hd fun K hK => hg ?_
  refine OpT.callU (H := H) (g := renOf gl) (gs := gs) ho hc hx hcal hf ⟨⟨fun r x h => (handLU_get hrow r x h).1, fun r s x y h h' => injL_get hinj r s x y (hget_mem h) (hget_mem h'), fun r x h => (handLU_get hrow r x h).2⟩, fun r x h hr => ?_, fun r x h hr => ?_, fun s hs => (imgL_get him s hs).1, fun s hs => (imgL_get him s hs).2, freeEnv_get henv, not_of_any hdfr, freeHeap_get hout⟩ ha hd ?_
  · have := givL_get hgs r x h
    rw [if_neg (by omega)] at this; exact this
  · have := givL_get hgs r x h
    rw [if_pos hr] at this; exact this
  · rintro p K' ⟨rfl, rfl⟩
    refine ⟨renOf gl, ⟨fun r x h hr => ?_, fun r x h _ => Option.isSome_iff_exists.1 (allIn_get hall r x (hget_mem h)), fun r x h hr => ?_, fun r s x y h h' => injL_get hinj2 r s x y (hget_mem h) (hget_mem h'), fun r x h => (backLU_get hback r x h).2⟩, hcl, hrf, hp ▸ hK _ h2⟩
    · have := (backLU_get hback r x h).1
      rw [if_pos hr] at this
      split at this
      · rename_i y hy; exact ⟨y, hy, rfl, this.1, fun hk => this.2.resolve_left (by have := this.1; omega)⟩
      · exact this.elim
    · have := (backLU_get hback r x h).1
      rw [if_neg (by omega)] at this
      exact ⟨.inr (by simpa using this.1), this.2⟩
theorem FnG.nilAt {P : Program} {G : List (Nat × PD)} {f : FuncId} {args : List PV} {H : Heap} {g : Gh} {R : PV → Heap → Gh → Prop} (i : Nat) {k : Nat} (h : FnG P G f args H g R) (hi : args[i]? = some (.d (.imm k []))) : FnG P G f (args.set i (.d .nilslice)) H g R := by
  intro B φ vs h0 h1 h2 h3
  have hl : args.length = (args.set i (.d .nilslice)).length := by simp
  refine h B φ vs h0 (h1.trans hl.symm) (fun j hj => ?_) h3
  have h4 := h2 j (by omega)
  by_cases hij : i = j
  · subst hij
    obtain ⟨_, e⟩ := List.getElem?_eq_some_iff.1 hi
    rw [e]
    rw [List.getElem_set_self] at h4
    exact h4.le (le_nil (f := PD.bool) k)
  · rw [List.getElem_set_ne hij] at h4; exact h4
theorem PureFn.nilAt {P : Program} {G : List (Nat × PD)} {f : FuncId} {args : List PV} {res : PV} (i : Nat) {k : Nat} (h : PureFn P G f args res) (hi : args[i]? = some (.d (.imm k []))) : PureFn P G f (args.set i (.d .nilslice)) res := FnG.nilAt i h hi
theorem ObjFn.nilAt {P : Program} {G : List (Nat × PD)} {f : FuncId} {args : List PV} {H H' : Heap} {res : PV} (i : Nat) {k : Nat} (h : ObjFn P G f args H res H') (hi : args[i]? = some (.d (.imm k []))) : ObjFn P G f (args.set i (.d .nilslice)) H res H' := FnG.nilAt i h hi
theorem RowFn.pure {P : Program} {G : List (Nat × PD)} {f : FuncId} {args : List PV} {e k : Nat} {l : List PD} (h : RowFn P G f args e k l) : PureFn P G f args (.d (.imm k l)) := by
  intro B φ vs h0 h1 h2 h3
  refine (h B φ vs h0 h1 h2 h3).mono ?_
  rintro e' w' ⟨v, p, H', g', φ', he, ⟨rfl, rfl⟩, hv, hs⟩
  have hf : frzT [(1000, { e, k, els := dl l })] (.slc 1000 0 l.length) = some (.d (.imm k l)) := by
    simp only [frzT, frz, hget, ↓reduceIte, dl_allD, Option.map_some, List.drop_zero, List.take_length]
  exact ⟨v, _, [], g', φ', he, ⟨rfl, rfl⟩, frzT_ok hs.heap hv hf, hs.drop⟩
theorem sdX {id : Nat} {l : List Oper} {y : Code} {Q : Post} (hm : P.follows .mixedOrders = true) (xs : Exc) (h : ∀ K : St → Prop, (∀ σ, AWp P G ro N y σ Q → K σ) → DOps P G ro N xs l.toArray K l [] σ)
    (hxs : exIni σ xs := by (repeat' (first | exact trivial | exact .inl rfl | apply And.intro | refine .inr ⟨?_, ?_⟩ | exact .inr rfl | refine exHeap_dyn ?_ | exact .inr (nestG_free _ _ _) | exact .inr (nelF_free (by decide)) | exact .inr (nelF_free_hole (by decide) rfl) | refine exHeap_dynBH (by decide) ?_ | exact .inr (nelB_free (by decide)) | exact .inr (nelB_free_hole (by decide) rfl) | exact .inr (optAgg_free rfl rfl) | exact .inr (by simp only [go_sem, rowsOf, rowsOfL, dl_rows, List.contains_nil, List.append_nil, List.nil_append]; done)))) :
    AWp P G ro N (.seq (.region id l.toArray true) y) σ Q :=
  AWp.seq fun K hK => AWp.drawX hm xs hxs (h K hK)
theorem drX {id : Nat} {l : List Oper} {Q : Post} (hm : P.follows .mixedOrders = true) (xs : Exc) (h : DOps P G ro N xs l.toArray (Q .normal) l [] σ)
    (hxs : exIni σ xs := by (repeat' (first | exact trivial | exact .inl rfl | apply And.intro | refine .inr ⟨?_, ?_⟩ | exact .inr rfl | refine exHeap_dyn ?_ | exact .inr (nestG_free _ _ _) | exact .inr (nelF_free (by decide)) | exact .inr (nelF_free_hole (by decide) rfl) | refine exHeap_dynBH (by decide) ?_ | exact .inr (nelB_free (by decide)) | exact .inr (nelB_free_hole (by decide) rfl) | exact .inr (optAgg_free rfl rfl) | exact .inr (by simp only [go_sem, rowsOf, rowsOfL, dl_rows, List.contains_nil, List.append_nil, List.nil_append]; done)))) :
    AWp P G ro N (.region id l.toArray true) σ Q := AWp.drawX hm xs hxs h
theorem dapH {xs : Exc} {acc : List Foot} {Q : St → Prop} {c : Call} {t e ts d r n : Nat} {xo : Operand} {z : Ty} {row : Row} (S : List Nat) (Sh : Heap) (L : List PV) (hel : sliceElem P t = some (e, z))
    (h2 : DOps P G ro N xs ops Q rest (acc ++ [some (.h r :: (tmpKeys (opnds o.op) ++ rowKeys σ (opnds o.op) ++ (S.map .t ++ heapKeys Sh)), .t d :: .h r :: .t ts :: heapKeys Sh)]) σ')
    (hg : o.guard = none := by rfl) (ho : o.op = .call c := by rfl) (hcb : c.callee = .builtin .append := by rfl) (hct : c.argTypes = #[t, t] := by rfl) (hca : c.args = #[.tmp ts, xo] := by rfl) (hdst : o.dst = some d := by rfl) (hd : d < N := by decide)
    (hs : eget σ.env ts = .slc r 0 n := by rfl) (hx : hget σ.heap r = some row := by first | rfl | exact dyR rfl | exact dyBR rfl)
    (hz : zeroOk z = true := by (simp only [go_sem]; done)) (hL : srcV z.size σ.heap (σ.eval xo) = some L := by (simp only [go_sem, ↓reduceIte]; try rfl)) (hn : row.els.length = n := by first | (simp only [go_sem]; done) | rfl) (hre : row.e = e := by rfl) (hrk : row.k = z.size := by first | (simp only [go_sem]; done) | rfl) (hp0 : 1000 ≤ r := by decide)
    (h63 : n + L.length ≤ 9223372036854775807 := by (simp only [go_sem, List.length_nil, List.length_cons]; omega)) (hbytes : (n + L.length) * z.bytes ≤ 140737488355328 := by (simp only [go_sem, List.length_nil, List.length_cons]; omega))
    (hS : mayLead xs r S := by (simp only [mayLead, true_and, true_or, or_true, and_self]; done)) (hSs : S.contains ts = true := by decide) (hSd : S.contains d = true := by decide) (hne : d ≠ ts := by decide)
    (hlead : leadOnly σ.env r ts S := by (repeat' (first | exact trivial | exact .inl rfl | exact .inr rfl | apply And.intro))) (hcod : codesIn Sh S := by (repeat' (first | exact trivial | exact .inl (by decide) | exact .inr rfl | apply And.intro)))
    (hcel : cellsAre σ.heap r Sh := by (repeat' (first | exact trivial | exact rfl | exact dyR rfl | exact dyS rfl | refine heapLe_dyn rfl ?_ | refine heapRefs_dyn ?_ | exact nelF_refs (by repeat' (first | exact trivial | decide | apply And.intro)) | exact dyBR rfl | exact dyBS rfl | refine heapLe_dynBH rfl ?_ | refine heapRefs_dynBH ?_ | exact nelB_refs (by repeat' (first | exact trivial | decide | apply And.intro)) | exact nelB_refs_hole (by repeat' (first | exact trivial | decide | apply And.intro)) (by repeat' (first | exact trivial | exact dyBS rfl | apply And.intro)) | decide | apply And.intro))) (hrm : r ∉ rowsOfL row.els := by first | exact notin_nil rfl | exact notin_nil (dl_rows _) | exact nelF_notin (by decide) | exact nelF_notin_hole (by decide) rfl | exact notin_nil (by (simp only [go_sem]; done))) (hLm : r ∉ rowsOfL L := by first | exact notin_nil rfl | exact notin_nil (dl_rows _) | exact notin_nil (by (simp only [go_sem]; done))) (hdm : (rowsOfL σ.dfr).contains r = false := by rfl)
    (hxe : exE xs ((.t d, .v (.slc r 0 (n + L.length))) :: (.h r, .r (some { row with els := row.els ++ L })) :: (.t ts, .v .any) :: killEff r Sh) := by (simp (disch := omega) only [go_sem, killEff, Nat.reduceAdd, true_or, or_true, and_self, true_and, ↓reduceIte]; done))
    (hp : ({ σ with env := eput (eput σ.env ts .any) d (.slc r 0 (n + L.length)), heap := hput (hkills r Sh σ.heap) r { row with els := row.els ++ L } } : St) = σ' := by (simp only [go_sem, hkills, ↓reduceIte]; rfl)) : DOps P G ro N xs ops Q (o :: rest) acc σ := by
  obtain ⟨f1, σ1, h3, h4, h5⟩ := OpX.appH (K := fun f1 σ1 => f1 = some (.h r :: (tmpKeys (opnds o.op) ++ rowKeys σ (opnds o.op) ++ (S.map .t ++ heapKeys Sh)), .t d :: .h r :: .t ts :: heapKeys Sh) ∧ σ1 = σ') Sh ho hcb hct hca hdst hd hel hz hs hx hL hn hre hrk hp0 h63 hbytes hS hSs hSd hne hlead hcod hcel hrm hLm hdm hxe ⟨rfl, hp⟩
  rw [h4, h5] at h3
  exact .step (DStep.plain hg h3) h2
theorem agg_noByte : ∀ {p : PV}, isAggPV p = true → isByte p = false
  | .d x, h => by cases x <;> simp [isAggPV] at h <;> rfl
  | .any, _ | .b _, _ | .ptr .., _ | .dptr .., _ | .bptr .., _ | .glob _, _ | .val _, _ | .slc .., _ | .mp _, _ | .func .., _ | .agg _, _ | .tuple _, _ => rfl
theorem Sub.voidCell (s i e k r : Nat) {x : Row} {p : PV} {cs : List PV} (hs : hget σ.heap s = some x) (hk1 : 1 ≤ x.k) (hels : x.els = [p]) (hp : isAggPV p = true) (hcs : pvCells p = some cs) (hi : cs[i]? = some (.d .nilslice)) (hr0 : hget σ.heap r = none) (hr : 1000 ≤ r) (hk : 1 ≤ k) :
    Sub G N σ { env := σ.env, heap := hput (hput σ.heap s { x with els := [.agg (cs.set i (.slc r 0 0))] }) r { e, k, els := [] }, dfr := σ.dfr, gh := σ.gh } := by
  intro P B a w φ hrep
  have hsr : s ≠ r := fun h => by subst h; rw [hs] at hr0; cases hr0
  have hgetr : hget (hput (hput σ.heap s { x with els := [.agg (cs.set i (.slc r 0 0))] }) r { e, k, els := [] }) r = some { e, k, els := [] } := by rw [hget_hput]; simp
  have hgets : hget (hput (hput σ.heap s { x with els := [.agg (cs.set i (.slc r 0 0))] }) r { e, k, els := [] }) s = some { x with els := [.agg (cs.set i (.slc r 0 0))] } := by
    rw [hget_hput, if_neg (Ne.symm hsr), hget_hput]; simp
  have hgeto : ∀ t, t ≠ r → t ≠ s → hget (hput (hput σ.heap s { x with els := [.agg (cs.set i (.slc r 0 0))] }) r { e, k, els := [] }) t = hget σ.heap t := fun t h1 h2 => by
    rw [hget_hput, if_neg (Ne.symm h1), hget_hput, if_neg (Ne.symm h2)]
  obtain ⟨H2, hH2⟩ : ∃ H2, H2 = hput (hput σ.heap s { x with els := [.agg (cs.set i (.slc r 0 0))] }) r { e, k, els := [] } := ⟨_, rfl⟩
  rw [← hH2] at hgetr hgets hgeto ⊢
  have hback : ∀ t y, t ≠ r → hget H2 t = some y → ∃ y', hget σ.heap t = some y' ∧ y.k = y'.k ∧ y.e = y'.e ∧ y.els.length = y'.els.length := fun t y h1 h => by
    by_cases h2 : t = s
    · subst h2; rw [hgets] at h; cases h; exact ⟨x, hs, rfl, rfl, by simp [hels]⟩
    · rw [hgeto t h1 h2] at h; exact ⟨y, h, rfl, rfl, rfl⟩
  have hrow : ∀ b, rowB (upd φ r none) H2 b → rowB φ σ.heap b := by
    rintro b ⟨t, y, h1, h2⟩
    by_cases ht : t = r
    · subst ht; simp [upd] at h2
    · simp only [upd, ht, if_false] at h2
      obtain ⟨y', h3, _⟩ := hback t y ht h1
      exact ⟨t, y', h3, h2⟩
  have hown : ∀ b, own (upd φ r none) H2 b → own φ σ.heap b := fun b h => h.imp (hrow b) id
  have hext : Ext w B.X φ σ.heap w (upd φ r none) H2 := by
    refine ⟨fun t y h => ?_, fun b kk h => ⟨h.1, h.2.1, fun ho => h.2.2 (hown b ho)⟩, fun b kk h => ⟨h.1, fun ho => h.2 (hown b ho)⟩, fun _ kk _ => rfl, fun t y b _ _ c e f hh => ⟨c, e, f, hh, rfl⟩⟩
    have htr : t ≠ r := fun e => by subst e; rw [hr0] at h; cases h
    by_cases ht : t = s
    · subst ht; rw [hs] at h; cases h
      exact ⟨_, hgets, rfl, fun _ => by simp [hels], by simp [upd, htr]⟩
    · exact ⟨y, (hgeto t htr ht).trans h, rfl, fun _ => rfl, by simp [upd, htr]⟩
  have hval : ∀ v, RepV w B.X φ σ.heap v p → RepV w B.X (upd φ r none) H2 v (.agg (cs.set i (.slc r 0 0))) := fun v hv => by
    obtain ⟨vs, rfl⟩ := RepV.agg_of hp hv
    have h1 := pvCells_ok hcs (hv.ext hext)
    have hil : i < cs.length := (List.getElem?_eq_some_iff.1 hi).1
    have h2 : RepV w B.X (upd φ r none) H2 (vs.getD i undef) (.slc r 0 0) := by
      have h3 := h1.rep i hil
      rw [(List.getElem?_eq_some_iff.1 hi).2] at h3
      have h4 := repD_nilslice (repV_d h3)
      simp only [Value.cells] at h4
      rw [h4]
      exact .slc0 hgetr (by simp [upd]) hk (by simp)
    have h5 := h1.set i h2 (by have := h1.flat i hil; simpa only [Value.cells] using this)
    have h6 : (Value.agg vs).cells.setIfInBounds i (vs.getD i undef) = vs := by
      apply Array.ext
      · simp [Value.cells]
      · intro j h1 h2
        by_cases hji : i = j
        · subst hji; simp [Value.cells, Array.getD, h2]
        · exact Array.getElem_setIfInBounds_ne h2 hji
    rw [h6] at h5
    exact .agg h5.size h5.rep h5.flat
  refine ⟨upd φ r none, Rep.of_sit ⟨⟨fun t y b ht hb => ?_, fun t y ht hb => ?_, fun t u y z b ht hu hb hb' => ?_, fun b hT => ⟨(hrep.heap.far b hT).1, (hrep.heap.far b hT).2.1, fun h => (hrep.heap.far b hT).2.2 (hrow b h)⟩⟩, hrep.keeps, fun t y b ht hb => ?_, fun t y ht hp' => ?_, fun t y b ht hp' hb => ?_, ?_, hrep.tnew, J_step (w := w) (φ := φ) (H := σ.heap) hrep.inv rfl rfl rfl rfl (Nat.le_refl _) (fun _ _ _ => rfl) (fun b hb => .inl (hrow b hb))⟩ hrep.size (fun t => (hrep.env t).ext hext) (hrep.dfr.ext hext)⟩
  · have htr : t ≠ r := fun e => by subst e; simp [upd] at hb
    simp only [upd, htr, if_false] at hb
    by_cases h : t = s
    · subst h; rw [hgets] at ht; cases ht
      refine (hrep.heap.rows t x b hs hb).turn rfl rfl (by simp [hels]) (fun _ _ h => h) (hrep.heap.rows t x b hs hb).free (fun j hj hj' v hv => ?_) fun z hz => by
        have hpb : isByte p = false := agg_noByte hp
        have := hz.zero_of fun q hq => by rw [hels] at hq; simp at hq; rw [hq]; exact hpb
        subst this; exact .zero _
      have hj0 : j = 0 := by simp [hels] at hj; exact hj
      subst hj0
      have e1 : x.els[0] = p := by simp [hels]
      rw [e1] at hv
      exact hval v hv
    · rw [hgeto t htr h] at ht
      exact (hrep.heap.rows t y b ht hb).ext hext rfl
  · by_cases htr : t = r
    · subst htr; rw [hgetr] at ht; cases ht; rfl
    · simp only [upd, htr, if_false] at hb
      obtain ⟨y', h1, _, _, h4⟩ := hback t y htr ht
      have := hrep.heap.void t y' h1 hb
      rw [this] at h4
      exact List.eq_nil_of_length_eq_zero h4
  · have htr : t ≠ r := fun e => by subst e; simp [upd] at hb
    have hur : u ≠ r := fun e => by subst e; simp [upd] at hb'
    simp only [upd, htr, hur, if_false] at hb hb'
    obtain ⟨y', h1, _⟩ := hback t y htr ht
    obtain ⟨z', h2, _⟩ := hback u z hur hu
    exact hrep.heap.inj t u y' z' b h1 h2 hb hb'
  · have htr : t ≠ r := fun e => by subst e; simp [upd] at hb
    simp only [upd, htr, if_false] at hb
    obtain ⟨y', h1, _⟩ := hback t y htr ht
    exact hrep.new t y' b h1 hb
  · have hlt : t < 1000 := by simpa [pinned] using hp'
    have htr : t ≠ r := by omega
    simp only [upd, htr, if_false]
    obtain ⟨y', h1, _⟩ := hback t y htr ht
    exact hrep.pins t y' h1 hp'
  · have hlt : t < 1000 := by simpa [pinned] using hp'
    have htr : t ≠ r := by omega
    simp only [upd, htr, if_false] at hb
    obtain ⟨y', h1, _⟩ := hback t y htr ht
    exact hrep.psz t y' b h1 hp' hb
  · exact hrep.glob.ext hext (fun g x hm => by obtain ⟨_, _, _, _, _, h2, _⟩ := hrep.glob g x hm; exact fun ho => h2 (hown g ho))
end
attribute [go_sem] handLU givL imgL freeEnv freeHeap backLU hdrop hkills heapKeys killEff cellsAre codesIn
end Go.Pv

namespace Go.Pv
open Go.Lib
def bytesI (s : ByteArray) : List Int := s.data.toList.map fun b => (b.toNat : Int)
theorem bytesI_length (s : ByteArray) : (bytesI s).length = s.size := by simp [bytesI]
section
variable {P : Program} {G : List (Nat × PD)} {ro : Option Nat} {N : Nat} {o : Oper} {σ : St} {K : St → Prop}
theorem OpT.sliceData {c : Call} {x : Operand} {r n : Nat} (ho : o.op = .call c) (hc : c.callee = .builtin .unsafeSliceData) (hca : c.args = #[x]) (hx : σ.eval x = .slc r 0 n) (hn : n ≠ 0) (hd : dstOk N o.dst) (hK : K (σ.put o.dst (.ptr r 0 0))) : OpT P G ro N o σ K := by
  intro B hro a w φ hr next Q hnx
  have hv := hr.eval x
  rw [hx] at hv
  rcases repV_slc hv with ⟨_, _, h4, _⟩ | ⟨x2, b, cap, h3, hx2, hb, hle, hcp, hl, hzz⟩
  · exact absurd h4 hn
  · have hpos := repV_slc_pos hv hx2
    have hop : (o.semAt ro a.eval).run P w = .ok (.value (.pointer (some ⟨b, 0 * x2.k + 0, none⟩))) w := by
      rw [Oper.semAt_eq _ _ _ (fun c hc => by rw [ho] at hc; cases hc)]
      simp only [execOp, ho, hc, hca, resolve, invoke, builtin, Sem.run_bind, Sem.run_pure, Result.andThen_ok, List.map_toArray, List.map_cons, List.map_nil, h3, run_unsafeSliceData_row (P := P) w _ _ _ n cap (by omega), Nat.add_zero]
    exact wpIn_value hop (hnx _ _ _ φ hK (hr.put hd (.ptr hx2 hb hpos)))
theorem OpT.mkStr {c : Call} {x y : Operand} {pt it e r : Nat} {s : ByteArray} (ho : o.op = .call c) (hc : c.callee = .builtin .unsafeString) (hca : c.args = #[x, y]) (hct : c.argTypes = #[pt, it]) (hpt : P.underlying pt = some (.pointer e)) (hce : P.cellsOf e = 1)
    (hx : σ.eval x = .ptr r 0 0) (hy : σ.eval y = .d (.int .i64 s.size)) (hrow : hget σ.heap r = some ⟨e, 1, dl (lenc (PD.int .u8) (bytesI s))⟩) (hs0 : s.size ≠ 0) (hd : dstOk N o.dst) (hK : K (σ.put o.dst (.d (.str s)))) : OpT P G ro N o σ K := by
  intro B hro a w φ hr next Q hnx
  have hv := hr.eval x
  rw [hx] at hv
  have hyv := hr.eval y
  rw [hy] at hyv
  have hyv := repV_int hyv
  generalize hav : a.eval x = av at hv
  cases hv with | ptr h1 hb h2 =>
  rename_i b x2
  rw [hrow] at h1; cases h1
  obtain ⟨cs, C, z, h3, h4, h5, h6⟩ := (hr.heap.rows r _ b hrow hb).here h2
  have hll : (dl (lenc (PD.int .u8) (bytesI s))).length = s.size := by simp [dl, lenc, bytesI_length]
  have hsl : s.data.toList.length = s.size := by simp
  dsimp only at h3 h4 h5 h6
  rw [hll] at h4
  have hcs : cs.size = C := by rw [h4.1, Nat.mul_one]
  have hcell : ∀ j x, s.data.toList[j]? = some x → w.cell? ((⟨b, 0, none⟩ : Addr).add j) = some (.int .u8 x.toNat) := fun j x hj => by
    obtain ⟨hj', hjx⟩ := List.getElem?_eq_some_iff.1 hj
    obtain ⟨v, g1, g2, g3⟩ := h5 j (by rw [hll, ← hsl]; exact hj')
    have e1 : (dl (lenc (PD.int .u8) (bytesI s)))[j]'(by rw [hll, ← hsl]; exact hj') = .d (.int .u8 (x.toNat : Int)) := by simp [dl, lenc, bytesI, ← hjx]
    rw [e1] at g1
    have e2 := repV_int g1
    subst e2
    rw [add_eq, Nat.zero_add, cell_of_row w b j cs e (0, z) h3]
    have := (g3 0 Nat.one_pos).1
    simpa [Value.cells] using this
  have hrun := run_unsafeString_row (P := P) w pt it o.type e hpt hce b cs.size (by simp [World.shape?, h3]) s.data.toList (fun h => hs0 (by rw [← hsl, h]; rfl)) (by rw [hsl, hcs]; exact h4.2.1) (by rw [hsl]; have := h4.2.1; have := h4.2.2; unfold maxLen at this; omega) hcell
  rw [hsl] at hrun
  have hop : (o.semAt ro a.eval).run P w = .ok (.value (.string s)) (w.freeze ⟨b, 0, none⟩ s.size) := by
    rw [Oper.semAt_eq _ _ _ (fun c hc => by rw [ho] at hc; cases hc)]
    have e3 : (⟨s.data.toList.toArray⟩ : ByteArray) = s := by cases s; simp
    rw [e3] at hrun
    have e4 : (⟨b, 0 * 1 + 0, none⟩ : Addr) = ⟨b, 0, none⟩ := rfl
    simp only [execOp, ho, hc, hca, hct, resolve, invoke, builtin, Sem.run_bind, Sem.run_pure, Result.andThen_ok, List.map_toArray, List.map_cons, List.map_nil, hav, hyv, e4, hrun]
  have hw' : (w.freeze ⟨b, 0, none⟩ s.size).heap[b]? = some (.cells cs e (0, s.size)) := by
    have hz : z ≤ s.size := by have := h6.le; rw [hll] at this; exact this
    simp only [World.freeze, hs0, if_false, Array.getElem?_modify, if_true, h3, Option.map_some, Option.some.injEq, Obj.cells.injEq, true_and]
    by_cases hz0 : z = 0
    · subst hz0; simp
    · rw [if_neg (by simpa using Ne.symm hz0)]
      simp; omega
  have hoth : ∀ c, c ≠ b → (w.freeze ⟨b, 0, none⟩ s.size).heap[c]? = w.heap[c]? := fun c hc => by
    simp [World.freeze, hs0, Array.getElem?_modify, Ne.symm hc]
  have hsz : (w.freeze ⟨b, 0, none⟩ s.size).heap.size = w.heap.size := by simp [World.freeze, hs0]
  have hrep := hr.write (w' := w.freeze ⟨b, 0, none⟩ s.size) hrow hb h2 (els := dl (lenc (PD.int .u8) (bytesI s))) rfl h3 hw' (fun i hi => by
    have hi' : i < (bytesI s).length := by rw [bytesI_length]; exact hi
    exact ⟨.d (.int .u8 (bytesI s)[i]), by simp [dl, lenc, hi'], rfl⟩) rfl ⟨by simp [World.freeze, hs0], by simp [World.freeze, hs0], by simp [World.freeze, hs0], by rw [hsz]; exact Nat.le_refl _, fun c _ hc => hoth c hc⟩ hsz h5
  have hself : hput σ.heap r { (⟨e, 1, dl (lenc (PD.int .u8) (bytesI s))⟩ : Row) with els := dl (lenc (PD.int .u8) (bytesI s)) } = σ.heap := hput_self hrow
  rw [hself] at hrep
  exact wpIn_value hop (hnx _ _ _ φ hK (hrep.put hd (.d (.str s))))
variable {xs : Exc}
theorem OpX.sliceData {K : Foot → St → Prop} {c : Call} {x : Operand} {r n : Nat} (ho : o.op = .call c) (hc : c.callee = .builtin .unsafeSliceData) (hca : c.args = #[x]) (hx : σ.eval x = .slc r 0 n) (hn : n ≠ 0) (hd : dstOk N o.dst) (hxe : exE xs (dstEff o.dst (.ptr r 0 0)))
    (hK : K (some (tmpKeys (opnds o.op), dstKeys o.dst)) (σ.put o.dst (.ptr r 0 0))) : OpX P G ro N xs o σ K := by
  refine ⟨some (tmpKeys (opnds o.op), dstKeys o.dst), σ.put o.dst (.ptr r 0 0), ⟨dstEff o.dst (.ptr r 0 0), fun k hk => by rw [ekeys_dst] at hk; exact hk, hxe, fun σ' hd' hs _ => ?_, look_put _ _ _, St.put_rest _ _ _⟩, hK⟩
  have h1 := eval_agree (σ := σ) (σ' := σ') (l := opnds o.op) fun k hk => hs k hk
  have hmem : x ∈ opnds o.op := by rw [ho]; simp [opnds, hca]
  exact OpT.sliceData ho hc hca ((h1 x hmem).trans hx) hn hd ⟨by rw [St.put_rest]; exact hd', look_put _ _ _⟩
theorem OpX.mkStr {K : Foot → St → Prop} {c : Call} {x y : Operand} {pt it e r : Nat} {s : ByteArray} (ho : o.op = .call c) (hc : c.callee = .builtin .unsafeString) (hca : c.args = #[x, y]) (hct : c.argTypes = #[pt, it]) (hpt : P.underlying pt = some (.pointer e)) (hce : P.cellsOf e = 1)
    (hx : σ.eval x = .ptr r 0 0) (hy : σ.eval y = .d (.int .i64 s.size)) (hrow : hget σ.heap r = some ⟨e, 1, dl (lenc (PD.int .u8) (bytesI s))⟩) (hs0 : s.size ≠ 0) (hd : dstOk N o.dst) (hxe : exE xs (dstEff o.dst (.d (.str s))))
    (hK : K (some (.h r :: tmpKeys (opnds o.op), dstKeys o.dst)) (σ.put o.dst (.d (.str s)))) : OpX P G ro N xs o σ K := by
  refine ⟨some (.h r :: tmpKeys (opnds o.op), dstKeys o.dst), σ.put o.dst (.d (.str s)), ⟨dstEff o.dst (.d (.str s)), fun k hk => by rw [ekeys_dst] at hk; exact hk, hxe, fun σ' hd' hs _ => ?_, look_put _ _ _, St.put_rest _ _ _⟩, hK⟩
  have h1 := eval_agree (σ := σ) (σ' := σ') (l := opnds o.op) fun k hk => hs k (List.mem_cons_of_mem _ hk)
  have h2 : hget σ'.heap r = hget σ.heap r := by
    have := hs (.h r) (List.mem_cons_self ..)
    simpa only [St.look, Cont.r.injEq] using this
  have hm1 : x ∈ opnds o.op := by rw [ho]; simp [opnds, hca]
  have hm2 : y ∈ opnds o.op := by rw [ho]; simp [opnds, hca]
  exact OpT.mkStr ho hc hca hct hpt hce ((h1 x hm1).trans hx) ((h1 y hm2).trans hy) (h2.trans hrow) hs0 hd ⟨by rw [St.put_rest]; exact hd', look_put _ _ _⟩
theorem Sit.more {B : Base P} {w w' : World} {φ : Nm} {H : Heap} {g : Gh} (hro : B.ro = none) (hs : Sit G B w φ H g) (hsz : w.heap.size ≤ w'.heap.size) (hold : ∀ b, b < w.heap.size → w'.heap[b]? = w.heap[b]?) (hos : w'.os = w.os) (ht : w'.tape = w.tape) (hout : w'.output = w.output) : Sit G B w' φ H g := by
  have hr : Rep G B 0 ⟨[], H, [], g⟩ { tmps := #[], defers := [] } w φ := by
    refine Rep.of_sit hs rfl (fun t => .any _) ?_
    rw [B.hheld hro]; exact .nil
  exact (hr.world (ext_more hsz hold (fun s x c h1 h2 => hr.heap.lt h1 h2)) ⟨hos, ht, hout, hsz, fun c h _ => hold c h⟩ (fun s x c h1 h2 => hold c (hr.heap.lt h1 h2)) (fun c h _ => hold c h)).sit
def handKeys (g : Nat → Nat) : Heap → List Key
  | [] => []
  | (r, _) :: l => .h (g r) :: handKeys g l
def allClean : Heap → Prop
  | [] => True
  | (_, x) :: l => cleanL x.els ∧ allClean l
end
attribute [go_sem] handKeys allClean
end Go.Pv

namespace Go.Pv
section
variable {P : Program} {G : List (Nat × PD)} {B : Base P} {N : Nat} {σ τ : St} {a : Act} {w : World} {φ φ' : Nm} {H H' : Heap} {ρ : Nat → Nat}
theorem Row.ren_len (x : Row) : (x.ren ρ).els.length = x.els.length := by simp [Row.ren, renL_length]
theorem RepV.renamed {X : Nat → Nat → Prop} (hrow : ∀ r x, hget H r = some x → hget H' (ρ r) = some (x.ren ρ) ∧ φ' (ρ r) = φ r) (hown : ∀ b, own φ' H' b ↔ own φ H b) {v : Value} {p : PV} (h : RepV w X φ H v p) : RepV w X φ' H' v (p.ren ρ) := by
  have hd : ∀ b kk, okd w X φ H b kk → okd w X φ' H' b kk := fun b kk hb => ⟨hb.1, hb.2.1, fun ho => hb.2.2 ((hown b).1 ho)⟩
  have hb' : ∀ b kk, okb w φ H b kk → okb w φ' H' b kk := fun b kk hb => ⟨hb.1, fun ho => hb.2 ((hown b).1 ho)⟩
  induction h with
  | any v => simp only [PV.ren]; exact .any v
  | d h => simp only [PV.ren]; exact .d (h.mono hd (fun _ _ _ => rfl))
  | b h => simp only [PV.ren]; exact .b (h.mono hb' (fun _ _ _ => rfl))
  | @ptr r i off b x hx hb hk =>
    simp only [PV.ren]
    obtain ⟨h1, h2⟩ := hrow _ _ hx
    exact .ptr (x := x.ren ρ) h1 (h2.trans hb) hk
  | dptr h hi => simp only [PV.ren]; exact .dptr (h.mono hd (fun _ _ _ => rfl)) hi
  | bptr h hi => simp only [PV.ren]; exact .bptr (h.mono hb' (fun _ _ _ => rfl)) hi
  | glob g => simp only [PV.ren]; exact .glob g
  | val hf => simp only [PV.ren]; exact .val hf
  | @slc r lo n cap b x hx hb hk hn hc hl hz =>
    simp only [PV.ren]
    obtain ⟨h1, h2⟩ := hrow _ _ hx
    exact .slc (x := x.ren ρ) h1 (h2.trans hb) hk (by rw [Row.ren_len]; exact hn) hc (by rw [Row.ren_len]; exact hl) hz
  | @slc0 r x p hx hb hk hp =>
    simp only [PV.ren]
    obtain ⟨h1, h2⟩ := hrow _ _ hx
    exact .slc0 (x := x.ren ρ) h1 (h2.trans hb) hk hp
  | @mp r b x hx hb hk =>
    simp only [PV.ren]
    obtain ⟨h1, h2⟩ := hrow _ _ hx
    exact .mp (x := x.ren ρ) h1 (h2.trans hb) hk
  | func hs _ ih =>
    simp only [PV.ren]
    exact .func (by rw [renL_length]; exact hs) fun i hi => by rw [renL_get _ _ i (by rw [renL_length] at hi; exact hi) hi]; exact ih i (by rw [renL_length] at hi; exact hi)
  | agg hs _ hf ih =>
    simp only [PV.ren]
    exact .agg (by rw [renL_length]; exact hs) (fun i hi => by rw [renL_get _ _ i (by rw [renL_length] at hi; exact hi) hi]; exact ih i (by rw [renL_length] at hi; exact hi)) fun i hi => hf i (by rw [renL_length] at hi; exact hi)
  | tuple hs _ ih =>
    simp only [PV.ren]
    exact .tuple (by rw [renL_length]; exact hs) fun i hi => by rw [renL_get _ _ i (by rw [renL_length] at hi; exact hi) hi]; exact ih i (by rw [renL_length] at hi; exact hi)
structure Renames (σ τ : St) (ρ : Nat → Nat) : Prop where
  env : ∀ t, eget τ.env t = (eget σ.env t).ren ρ
  row : ∀ r x, hget σ.heap r = some x → hget τ.heap (ρ r) = some (x.ren ρ)
  all : ∀ s y, hget τ.heap s = some y → ∃ r x, hget σ.heap r = some x ∧ s = ρ r
  inj : ∀ r s x y, hget σ.heap r = some x → hget σ.heap s = some y → ρ r = ρ s → r = s
  pin : ∀ r x, hget σ.heap r = some x → r < 1000 → ρ r = r
  big : ∀ r x, hget σ.heap r = some x → 1000 ≤ r → 1000 ≤ ρ r
  dfr : τ.dfr = σ.dfr.map (PV.ren ρ)
  gh : σ.gh = τ.gh
open Classical in
noncomputable def renNm (φ : Nm) (H : Heap) (ρ : Nat → Nat) : Nm := ⟨fun s => if h : ∃ r, (hget H r).isSome = true ∧ ρ r = s then φ (Classical.choose h) else none, φ.T⟩
open Classical in
theorem renNm_at (hi : ∀ r s x y, hget H r = some x → hget H s = some y → ρ r = ρ s → r = s) {r : Nat} {x : Row} (h : hget H r = some x) : (renNm φ H ρ) (ρ r) = φ r := by
  have hex : ∃ r', (hget H r').isSome = true ∧ ρ r' = ρ r := ⟨r, by rw [h]; rfl, rfl⟩
  show (if h : ∃ r', (hget H r').isSome = true ∧ ρ r' = ρ r then φ (Classical.choose h) else none) = _
  rw [dif_pos hex]
  obtain ⟨h1, h2⟩ := Classical.choose_spec hex
  obtain ⟨y, hy⟩ := Option.isSome_iff_exists.1 h1
  rw [hi _ _ _ _ hy h h2]
theorem Sub.ren (h : Renames σ τ ρ) : Sub G N σ τ := by
  intro P B a w φ hr
  have hat : ∀ r x, hget σ.heap r = some x → (renNm φ σ.heap ρ) (ρ r) = φ r := fun r x hx => renNm_at h.inj hx
  have hrow : ∀ b, rowB (renNm φ σ.heap ρ) τ.heap b ↔ rowB φ σ.heap b := fun b => by
    constructor
    · rintro ⟨s, y, h1, h2⟩
      obtain ⟨r, x, h3, rfl⟩ := h.all s y h1
      exact ⟨r, x, h3, (hat r x h3).symm.trans h2⟩
    · rintro ⟨r, x, h1, h2⟩
      exact ⟨ρ r, _, h.row r x h1, (hat r x h1).trans h2⟩
  have hown : ∀ b, own (renNm φ σ.heap ρ) τ.heap b ↔ own φ σ.heap b := fun b => or_congr (hrow b) Iff.rfl
  have hv : ∀ {v p}, RepV w B.X φ σ.heap v p → RepV w B.X (renNm φ σ.heap ρ) τ.heap v (p.ren ρ) := fun {v p} hv => hv.renamed (fun r x hx => ⟨h.row r x hx, hat r x hx⟩) hown
  have hd : ∀ b kk, okd w B.X φ σ.heap b kk → okd w B.X (renNm φ σ.heap ρ) τ.heap b kk := fun b kk hb => ⟨hb.1, hb.2.1, fun ho => hb.2.2 ((hown b).1 ho)⟩
  refine ⟨renNm φ σ.heap ρ, Rep.of_sit ⟨⟨fun s y b hs hb => ?_, fun s y hs hb => ?_, fun s t y z b hs ht hb hb' => ?_, fun b hT => ⟨(hr.heap.far b hT).1, (hr.heap.far b hT).2.1, fun ho => (hr.heap.far b hT).2.2 ((hrow b).1 ho)⟩⟩, hr.keeps, fun s y b hs hb => ?_, fun s y hs hp => ?_, fun s y b hs hp hb => ?_, ?_, hr.tnew, ?_⟩ hr.size (fun t => ?_) ?_⟩
  · obtain ⟨r, x, h1, rfl⟩ := h.all s y hs
    have h2 := h.row r x h1
    rw [hs] at h2; cases h2
    rw [hat r x h1] at hb
    refine (hr.heap.rows r x b h1 hb).turn rfl rfl (Row.ren_len x) (fun _ _ h => h) (hr.heap.rows r x b h1 hb).free (fun i hi hi' v hv' => ?_) fun z hz => by simp only [Row.ren, renL_map]; exact hz.map fun p hp => ren_byte ρ hp
    simp only [Row.ren]
    rw [renL_get _ _ i hi (by simpa [Row.ren] using hi')]
    exact hv hv'
  · obtain ⟨r, x, h1, rfl⟩ := h.all s y hs
    have h2 := h.row r x h1
    rw [hs] at h2; cases h2
    rw [hat r x h1] at hb
    have := hr.heap.void r x h1 hb
    simp [Row.ren, this, renL]
  · obtain ⟨r, x, h1, rfl⟩ := h.all s y hs
    obtain ⟨r', x', h1', rfl⟩ := h.all t z ht
    rw [hat r x h1] at hb
    rw [hat r' x' h1'] at hb'
    rw [hr.heap.inj r r' x x' b h1 h1' hb hb']
  · obtain ⟨r, x, h1, rfl⟩ := h.all s y hs
    rw [hat r x h1] at hb
    exact hr.new r x b h1 hb
  · obtain ⟨r, x, h1, rfl⟩ := h.all s y hs
    rcases Nat.lt_or_ge r 1000 with hl | hl
    · rw [hat r x h1, h.pin r x h1 hl]
      exact hr.pins r x h1 (by simp [pinned, hl])
    · have := h.big r x h1 hl
      simp [pinned] at hp; omega
  · obtain ⟨r, x, h1, rfl⟩ := h.all s y hs
    rcases Nat.lt_or_ge r 1000 with hl | hl
    · rw [hat r x h1] at hb
      exact hr.psz r x b h1 (by simp [pinned, hl]) hb
    · have := h.big r x h1 hl
      simp [pinned] at hp; omega
  · intro g y hm
    obtain ⟨c, e, f, v, h1, h2, h3, h4, h5, h6⟩ := hr.glob g y hm
    exact ⟨c, e, f, v, h1, fun ho => h2 ((hown g).1 ho), h3.mono hd (fun _ _ _ => rfl), h4, h5, h6⟩
  · rw [← h.gh]
    exact J_step (w := w) (φ := φ) (H := σ.heap) hr.inv rfl rfl rfl rfl (Nat.le_refl _) (fun _ _ _ => rfl) (fun b hb => .inl ((hrow b).1 hb))
  · rw [h.env t]; exact hv (hr.env t)
  · rw [h.dfr, ← h.gh]
    exact hr.dfr.map (fun D hD => ⟨hd D 0 hD, rfl⟩) fun p _ v hv' => hv hv'
end
def renHeap (ρ : Nat → Nat) : Heap → Heap
  | [] => []
  | (r, x) :: l => (r, x.ren ρ) :: renHeap ρ l
def renEnv (ρ : Nat → Nat) : List (Nat × PV) → List (Nat × PV)
  | [] => []
  | (t, v) :: l => (t, v.ren ρ) :: renEnv ρ l
theorem hget_renHeap (ρ : Nat → Nat) : ∀ (l : Heap) (r : Nat), hget (renHeap ρ l) r = (hget l r).map (Row.ren ρ)
  | [], _ => rfl
  | (s, x) :: l, r => by
    simp only [renHeap, hget]
    split
    · rfl
    · exact hget_renHeap ρ l r
theorem eget_renEnv (ρ : Nat → Nat) : ∀ (l : List (Nat × PV)) (t : Nat), eget (renEnv ρ l) t = (eget l t).ren ρ
  | [], _ => by simp [renEnv, eget, PV.ren]
  | (s, x) :: l, t => by
    simp only [renEnv, eget]
    split
    · rfl
    · exact eget_renEnv ρ l t
theorem ren_dl (ρ : Nat → Nat) (l : List PD) : renL ρ (l.map PV.d) = l.map PV.d := by
  rw [renL_map, List.map_map]; rfl
theorem NestG.ren {α : Type} {g : α → Row} [NestG g] (ρ : Nat → Nat) (x : α) : (g x).ren ρ = g x := by
  obtain ⟨_, l, h⟩ := NestG.data (g := g) x
  simp only [Row.ren, h, ren_dl]
  cases hg : g x
  rw [hg] at h; simp only at h; subst h; rfl
section
variable {G : List (Nat × PD)} {N : Nat} {σ : St}
end
class NestP {α : Type} (F : Nat → α → PV) (g : α → Row) (pd : α → PD) : Prop where
  frz : ∀ H r x, hget H r = some (g x) → frz H (F r x) = some (pd x)
def lowEnv : List (Nat × PV) → Prop
  | [] => True
  | (_, v) :: l => ((rowsOf v).all fun r => decide (r < 1000000)) = true ∧ lowEnv l
theorem lowEnv_get : ∀ {l : List (Nat × PV)}, lowEnv l → ∀ t, ∀ r ∈ rowsOf (eget l t), r < 1000000
  | [], _, t, r, h => by simp [eget, rowsOf] at h
  | (s, v) :: l, h, t, r, hr => by
    simp only [eget] at hr
    split at hr
    · have := List.all_eq_true.1 h.1 r hr
      simpa using this
    · exact lowEnv_get h.2 t r hr
section
variable {G : List (Nat × PD)} {N : Nat} {σ : St}
end
theorem renOf_high {gl : List (Nat × Nat)} (h : (gl.all fun p => decide (p.1 < 1000000)) = true) {s : Nat} (hs : 1000000 ≤ s) : renOf gl s = s := by
  induction gl with
  | nil => rfl
  | cons p l ih =>
    obtain ⟨a, b⟩ := p
    simp only [List.all_cons, Bool.and_eq_true, decide_eq_true_eq] at h
    simp only [renOf]
    rw [if_neg (by omega)]
    exact ih h.2
theorem renOf_low {gl : List (Nat × Nat)} (h : (gl.all fun p => decide (p.2 < 1000000)) = true) {s : Nat} (hs : s < 1000000) : renOf gl s < 1000000 := by
  induction gl with
  | nil => exact hs
  | cons p l ih =>
    obtain ⟨a, b⟩ := p
    simp only [List.all_cons, Bool.and_eq_true, decide_eq_true_eq] at h
    simp only [renOf]
    split
    · exact h.1
    · exact ih h.2
theorem nelF_clean {α : Type} {c : Nat} {F : Nat → α → PV} [NestF F] {L : List α} : cleanL (nelF c F L) := by
  have : ∀ l : List PV, (∀ (i : Nat) (p : PV), l[i]? = some p → clean p) → cleanL l := fun l => by
    induction l with
    | nil => exact fun _ => trivial
    | cons p l ih => exact fun h => ⟨h 0 p rfl, ih fun i q hq => h (i + 1) q (by simpa using hq)⟩
  refine this _ fun i p hp => ?_
  rw [nelF_get, Option.map_eq_some_iff] at hp
  obtain ⟨x, _, rfl⟩ := hp
  exact NestF.clean _ _
def lowOut (g : Nat → Nat) (H : Heap) : Heap → Prop
  | [] => True
  | (s, x) :: l => ((H.any fun y => g y.1 == s) = true ∨ ((rowsOfL x.els).all fun r => decide (r < 1000000)) = true) ∧ lowOut g H l
theorem lowOut_get {g : Nat → Nat} {H : Heap} : ∀ {l : Heap}, lowOut g H l → ∀ t y, hget l t = some y → (∀ r x, hget H r = some x → g r ≠ t) → ∀ s ∈ rowsOfL y.els, s < 1000000
  | [], _, t, y, h, _, _, _ => by simp [hget] at h
  | (s, x) :: l, h, t, y, hy, hn, r, hr => by
    simp only [hget] at hy
    split at hy
    · rename_i e; subst e; cases hy
      rcases h.1 with h1 | h1
      · obtain ⟨r', x', h2, h3⟩ := hget_of_any h1
        exact absurd h3 (hn r' x' h2)
      · simpa using List.all_eq_true.1 h1 r hr
    · exact lowOut_get h.2 t y hy hn r hr
section
variable {P : Program} {G : List (Nat × PD)} {ro : Option Nat} {N : Nat} {ops : Array Oper} {σ σ' : St} {o : Oper} {rest : List Oper}
theorem OpT.relook {K : St → Prop} (h : OpT P G ro N o σ (fun τ => τ.look = σ'.look ∧ τ.rest = σ'.rest)) (hK : K σ') : OpT P G ro N o σ K :=
  fun B hro a w φ hr next Q hn => h B hro a w φ hr next Q fun τ a' w' φ' h1 h2 => hn σ' a' w' φ' hK (h2.same h1.1 h1.2)
end
end Go.Pv

namespace Go.Pv
section
variable {P : Program} {G : List (Nat × PD)} {ro : Option Nat} {N : Nat} {ops : Array Oper} {σ σ' : St} {o : Oper} {rest : List Oper}
@[go_sem] theorem nelF_cleanT {α : Type} {c : Nat} {F : Nat → α → PV} [NestF F] {L : List α} : cleanL (nelF c F L) = True := eq_true nelF_clean
theorem drp (e' : List (Nat × PV)) (h : envLe e' σ.env := by (repeat' (first | exact trivial | exact rfl | exact slcl (by (simp only [List.length_append, List.length_set, List.length_replicate, List.length_cons, List.length_nil, Nat.zero_add]; done)) | apply And.intro))) : Sub G N σ ⟨e', σ.heap, σ.dfr, σ.gh⟩ := by
  intro P B a w φ hr
  refine ⟨φ, ⟨hr.size, fun t => ?_, hr.heap, hr.keeps, hr.new, hr.pins, hr.psz, hr.glob, hr.tnew, hr.inv, hr.dfr⟩⟩
  rcases envLe_get h t with h | h
  · rw [h]; exact .any _
  · rw [h]; exact hr.env t
mutual
theorem PV.ren_id : ∀ p : PV, p.ren id = p
  | .func fn l => by simp only [PV.ren, renL_id l]
  | .agg l => by simp only [PV.ren, renL_id l]
  | .tuple l => by simp only [PV.ren, renL_id l]
  | .ptr .. => by simp only [PV.ren, id]
  | .slc .. => by simp only [PV.ren, id]
  | .mp .. => by simp only [PV.ren, id]
  | .any | .d _ | .b _ | .dptr .. | .bptr .. | .glob _ | .val _ => by simp only [PV.ren]
theorem renL_id : ∀ l : List PV, renL id l = l
  | [] => by simp only [renL]
  | p :: l => by simp only [renL, PV.ren_id p, renL_id l]
end
theorem Row.ren_id (x : Row) : x.ren id = x := by simp only [Row.ren, renL_id]
theorem Sub.same {H : Heap} (h : ∀ r, hget H r = hget σ.heap r) : Sub G N σ ⟨σ.env, H, σ.dfr, σ.gh⟩ :=
  Sub.ren (ρ := id) ⟨fun t => (PV.ren_id _).symm, fun r x hx => by rw [Row.ren_id]; exact (h r).trans hx, fun s y hy => ⟨s, y, (h s).symm.trans hy, rfl⟩, fun r s _ _ _ _ e => e, fun _ _ _ _ => rfl, fun _ _ _ hr => hr, by
    show σ.dfr = σ.dfr.map (PV.ren id)
    rw [← renL_map, renL_id], rfl⟩
def renAt (ρ : Nat → Nat) (o : Option Row) (y : Row) : Prop := match o with
  | some x => x.e = y.e ∧ x.k = y.k ∧ renL ρ x.els = y.els
  | none => False
def renTo (ρ : Nat → Nat) (l : Heap) : Heap → Prop
  | [] => True
  | (s, y) :: m => renAt ρ (hget l s) y ∧ renTo ρ l m
theorem renTo_mem {ρ : Nat → Nat} {l : Heap} : ∀ {m : Heap}, renTo ρ l m → ∀ s y, (s, y) ∈ m → renAt ρ (hget l s) y
  | (r, x) :: m, h, s, y, hm => by
    rcases List.mem_cons.1 hm with hm | hm
    · cases hm; exact h.1
    · exact renTo_mem h.2 s y hm
theorem renTo_eq {ρ : Nat → Nat} {l m : Heap} (h : renTo ρ l m) (hall : allIn m l) (r : Nat) : hget m r = hget (renHeap ρ l) r := by
  rw [hget_renHeap]
  cases hm : hget m r with
  | some y =>
    have := renTo_mem h r y (hget_mem hm)
    cases hl : hget l r with
    | none => rw [hl] at this; exact this.elim
    | some x =>
      rw [hl] at this
      obtain ⟨h2, h3, h4⟩ := this
      simp only [Option.map_some, Row.ren, h4]
      cases x; cases y; simp only at h2 h3; subst h2 h3; rfl
  | none =>
    cases hl : hget l r with
    | none => rfl
    | some x => have := allIn_get hall r x (hget_mem hl); rw [hm] at this; cases this
end
end Go.Pv

namespace Go.Pv
def nm (i c : Nat) : Nat := 1000000 + 16 * i + c
theorem nm_inj {i j c d : Nat} (hc : c < 16) (hd : d < 16) (h : nm i c = nm j d) : i = j ∧ c = d := by unfold nm at h; omega
theorem nm_high (i c : Nat) : 1000000 ≤ nm i c := by unfold nm; omega
abbrev Block := List (Nat × Row)
def blkGo (i : Nat) : Block → Heap
  | [] => []
  | (c, y) :: b => (nm i c, y) :: blkGo i b
def dynB : Nat → List Block → Heap
  | _, [] => []
  | i, b :: M => blkGo i b ++ dynB (i + 1) M
def dynBH (M : List Block) (l : Heap) : Heap := dynB 0 M ++ l
def okB (b : Block) : Prop := ∀ c y, (c, y) ∈ b → c < 16
theorem hget_blk_low {r : Nat} (hr : r < 1000000) (i : Nat) : ∀ b : Block, hget (blkGo i b) r = none
  | [] => rfl
  | (c, y) :: b => by
    simp only [blkGo, hget]
    rw [if_neg (by have := nm_high i c; omega)]
    exact hget_blk_low hr i b
theorem hget_dynB_low {r : Nat} (hr : r < 1000000) : ∀ (M : List Block) (i : Nat), hget (dynB i M) r = none
  | [], _ => rfl
  | b :: M, i => by
    simp only [dynB, hget_append, hget_blk_low hr i b]
    exact hget_dynB_low hr M (i + 1)
theorem hget_blk {i c : Nat} (hc : c < 16) : ∀ {b : Block}, okB b → hget (blkGo i b) (nm i c) = hget b c
  | [], _ => rfl
  | (d, y) :: b, h => by
    simp only [blkGo, hget]
    have hd := h d y (List.mem_cons_self ..)
    by_cases e : d = c
    · subst e; rw [if_pos rfl, if_pos rfl]
    · rw [if_neg (fun e' => e (nm_inj hd hc e').2), if_neg e]
      exact hget_blk hc fun c y hm => h c y (List.mem_cons_of_mem _ hm)
theorem hget_blk_ne {i j c : Nat} (hc : c < 16) (hij : i ≠ j) : ∀ {b : Block}, okB b → hget (blkGo i b) (nm j c) = none
  | [], _ => rfl
  | (d, y) :: b, h => by
    simp only [blkGo, hget]
    have hd := h d y (List.mem_cons_self ..)
    rw [if_neg (fun e => hij (nm_inj hd hc e).1)]
    exact hget_blk_ne hc hij fun c y hm => h c y (List.mem_cons_of_mem _ hm)
theorem hget_dynB {j c : Nat} (hc : c < 16) : ∀ {M : List Block}, (∀ b ∈ M, okB b) → ∀ i, hget (dynB i M) (nm j c) = if i ≤ j then (M[j - i]?).bind (fun b => hget b c) else none
  | [], _, i => by simp [dynB, hget]
  | b :: M, h, i => by
    simp only [dynB, hget_append]
    have ih := hget_dynB hc (M := M) (fun b hb => h b (List.mem_cons_of_mem _ hb)) (i + 1) (j := j)
    by_cases hij : i = j
    · subst hij
      rw [hget_blk hc (h b (List.mem_cons_self ..)), if_pos (Nat.le_refl _), Nat.sub_self]
      simp only [List.getElem?_cons_zero, Option.bind_some]
      cases hget b c with
      | some y => rfl
      | none => rw [ih, if_neg (by omega)]
    · rw [hget_blk_ne hc hij (h b (List.mem_cons_self ..)), ih]
      by_cases hlt : i ≤ j
      · rw [if_pos hlt, if_pos (by omega), show j - i = (j - (i + 1)) + 1 by omega, List.getElem?_cons_succ]
      · rw [if_neg hlt, if_neg (by omega)]
theorem hget_blk_name {i r : Nat} {y : Row} : ∀ {b : Block}, hget (blkGo i b) r = some y → ∃ c, r = nm i c ∧ (c, y) ∈ b
  | [], h => by simp [blkGo, hget] at h
  | (d, z) :: b, h => by
    simp only [blkGo, hget] at h
    split at h
    · rename_i e
      simp only [Option.some.injEq] at h
      subst h
      exact ⟨d, e.symm, List.mem_cons_self ..⟩
    · obtain ⟨c, h1, h2⟩ := hget_blk_name h
      exact ⟨c, h1, List.mem_cons_of_mem _ h2⟩
theorem hget_dynB_name {r : Nat} {y : Row} : ∀ {M : List Block} {i : Nat}, hget (dynB i M) r = some y → ∃ (j c : Nat) (b : Block), r = nm j c ∧ i ≤ j ∧ M[j - i]? = some b ∧ (c, y) ∈ b
  | [], i, h => by simp [dynB, hget] at h
  | b :: M, i, h => by
    simp only [dynB, hget_append] at h
    cases hg : hget (blkGo i b) r with
    | some x =>
      rw [hg] at h
      simp only [Option.some.injEq] at h
      subst h
      obtain ⟨c, h1, h2⟩ := hget_blk_name hg
      exact ⟨i, c, b, h1, Nat.le_refl _, by simp, h2⟩
    | none =>
      rw [hg] at h
      obtain ⟨j, c, b', h1, h2, h3, h4⟩ := hget_dynB_name (M := M) (i := i + 1) h
      refine ⟨j, c, b', h1, by omega, ?_, h4⟩
      rw [show j - i = (j - (i + 1)) + 1 by omega, List.getElem?_cons_succ]; exact h3
theorem hget_dynBH {M : List Block} {l : Heap} {r : Nat} (hr : r < 1000000) : hget (dynBH M l) r = hget l r := by
  simp only [dynBH, hget_append, hget_dynB_low hr]
theorem hget_dynBH_nm {M : List Block} {l : Heap} {j c : Nat} (hc : c < 16) (hM : ∀ b ∈ M, okB b) (hl : lows l) : hget (dynBH M l) (nm j c) = (M[j]?).bind fun b => hget b c := by
  simp only [dynBH, hget_append, hget_dynB hc hM, Nat.zero_le, if_true, Nat.sub_zero]
  cases (M[j]?).bind fun b => hget b c with
  | some x => rfl
  | none => exact lows_get hl _ (nm_high j c)
theorem hput_dynBH {M : List Block} {l : Heap} {r : Nat} {x : Row} (hr : r < 1000000) : hput (dynBH M l) r x = dynBH M (hput l r x) := hput_append (hget_dynB_low hr M 0)
end Go.Pv

namespace Go.Pv
def okBlk (i : Nat) (b : Block) : Prop := okB b ∧ (b.map (·.1)).Nodup ∧ ∀ c y, (c, y) ∈ b → ∀ s ∈ rowsOfL y.els, ∃ d, d < 16 ∧ s = nm i d ∧ (hget b d).isSome = true
class BlksOk (M : List Block) : Prop where
  ok : ∀ (i : Nat) (b : Block), M[i]? = some b → okBlk i b
theorem BlksOk.okB {M : List Block} [h : BlksOk M] : ∀ b ∈ M, okB b := fun b hb => by
  obtain ⟨i, hi, rfl⟩ := List.getElem_of_mem hb
  exact (h.ok i _ (List.getElem?_eq_getElem hi)).1
theorem blk_mem {i r : Nat} {y : Row} : ∀ {b : Block}, (r, y) ∈ blkGo i b → ∃ c, r = nm i c ∧ (c, y) ∈ b
  | [], h => by simp [blkGo] at h
  | (d, z) :: b, h => by
    simp only [blkGo, List.mem_cons] at h
    rcases h with h | h
    · cases h; exact ⟨d, rfl, List.mem_cons_self ..⟩
    · obtain ⟨c, h1, h2⟩ := blk_mem h
      exact ⟨c, h1, List.mem_cons_of_mem _ h2⟩
theorem dynB_mem {r : Nat} {y : Row} : ∀ {M : List Block} {i : Nat}, (r, y) ∈ dynB i M → ∃ (j c : Nat) (b : Block), r = nm j c ∧ i ≤ j ∧ M[j - i]? = some b ∧ (c, y) ∈ b
  | [], i, h => by simp [dynB] at h
  | b :: M, i, h => by
    simp only [dynB, List.mem_append] at h
    rcases h with h | h
    · obtain ⟨c, h1, h2⟩ := blk_mem h
      exact ⟨i, c, b, h1, Nat.le_refl _, by simp, h2⟩
    · obtain ⟨j, c, b', h1, h2, h3, h4⟩ := dynB_mem (M := M) (i := i + 1) h
      refine ⟨j, c, b', h1, by omega, ?_, h4⟩
      rw [show j - i = (j - (i + 1)) + 1 by omega, List.getElem?_cons_succ]; exact h3
theorem dynB_rows {M : List Block} [hM : BlksOk M] {r : Nat} {y : Row} (h : (r, y) ∈ dynB 0 M) : 1000000 ≤ r ∧ ∀ s ∈ rowsOfL y.els, 1000000 ≤ s := by
  obtain ⟨j, c, b, h1, _, h3, h4⟩ := dynB_mem h
  refine ⟨by rw [h1]; exact nm_high j c, fun s hs => ?_⟩
  obtain ⟨d, _, h5, _⟩ := (hM.ok _ b h3).2.2 c y h4 s hs
  rw [h5]; exact nm_high _ d
@[go_sem] theorem freshLow_dynBH {M : List Block} [BlksOk M] {l : Heap} : freshLow (dynBH M l) = freshLow l := freshLow_append_high fun x hx => (dynB_rows (r := x.1) (y := x.2) hx).1
theorem hkill_high {r : Nat} (hr : r < 1000000) : ∀ (D : Heap), (∀ s y, (s, y) ∈ D → 1000000 ≤ s ∧ ∀ q ∈ rowsOfL y.els, 1000000 ≤ q) → hkill r D = D
  | [], _ => rfl
  | (s, y) :: D, h => by
    have hs := h s y (List.mem_cons_self ..)
    simp only [hkill]
    rw [if_neg (by omega), hkill_high hr D fun s y hm => h s y (List.mem_cons_of_mem _ hm), killL_id y.els fun hm => by have := hs.2 r hm; omega]
@[go_sem] theorem hkill_dynBH {r : Nat} {M : List Block} [hM : BlksOk M] {l : Heap} (hr : r < 1000000) : hkill r (dynBH M l) = dynBH M (hkill r l) := by
  simp only [dynBH, hkill_append]
  rw [hkill_high hr _ fun s y hm => dynB_rows hm]
theorem hget_first {c : Nat} {y : Row} : ∀ {b : Block}, (b.map (·.1)).Nodup → (c, y) ∈ b → hget b c = some y
  | [], _, h => by simp at h
  | (d, z) :: b, hn, h => by
    simp only [List.map_cons, List.nodup_cons] at hn
    simp only [hget]
    rcases List.mem_cons.1 h with h | h
    · cases h; rw [if_pos rfl]
    · rw [if_neg (fun e => hn.1 (by rw [e]; exact List.mem_map_of_mem (f := (·.1)) h))]
      exact hget_first hn.2 h
theorem heapLe_each {h : Heap} : ∀ {D : Heap}, (∀ s y, (s, y) ∈ D → hget h s = some y) → heapLe D h
  | [], _ => trivial
  | (s, y) :: D, hD => ⟨hD s y (List.mem_cons_self ..), heapLe_each fun s y hm => hD s y (List.mem_cons_of_mem _ hm)⟩
theorem hget_dynB_mem {M : List Block} [hM : BlksOk M] {r : Nat} {y : Row} (h : (r, y) ∈ dynB 0 M) : hget (dynB 0 M) r = some y := by
  obtain ⟨j, c, b, h1, _, h3, h4⟩ := dynB_mem h
  have hb := hM.ok _ b h3
  rw [h1, hget_dynB (hb.1 c y h4) BlksOk.okB 0, if_pos (Nat.zero_le _), h3]
  exact hget_first hb.2.1 h4
theorem heapLe_dynBH {M M' : List Block} [hM : BlksOk M'] {l l2 : Heap} (e : M = M') (h : heapLe l (dynBH M' l2)) : heapLe (dynBH M l) (dynBH M' l2) := by
  subst e
  refine heapLe_append (heapLe_each fun s y hm => ?_) h
  simp only [dynBH, hget_append, hget_dynB_mem hm]
theorem heapRefs_each {H0 : Heap} : ∀ {D : Heap}, (∀ s y, (s, y) ∈ D → refsInL H0 y.els) → heapRefs H0 D
  | [], _ => trivial
  | (s, y) :: D, hD => ⟨hD s y (List.mem_cons_self ..), heapRefs_each fun s y hm => hD s y (List.mem_cons_of_mem _ hm)⟩
theorem heapRefs_dynBH {M : List Block} [hM : BlksOk M] {l l0 : Heap} (hl : heapRefs (dynBH M l0) l) : heapRefs (dynBH M l0) (dynBH M l) := by
  refine heapRefs_append (heapRefs_each fun s y hm => refsInL_of fun q hq => ?_) hl
  obtain ⟨j, c, b, _, _, h3, h4⟩ := dynB_mem hm
  obtain ⟨d, hd, h5, h6⟩ := (hM.ok _ b h3).2.2 c y h4 q hq
  simp only [dynBH, hget_append]
  rw [Nat.sub_zero] at h3 h5
  rw [h5, hget_dynB hd BlksOk.okB 0, if_pos (Nat.zero_le _), Nat.sub_zero, h3]
  simp only [Option.bind_some]
  cases hg : hget b d with
  | some z => rfl
  | none => rw [hg] at h6; cases h6
theorem exHeap_each {r : Nat} {S : List Nat} : ∀ {D : Heap}, (∀ s y, (s, y) ∈ D → (rowsOfL y.els).contains r = false) → exHeap r S D
  | [], _ => trivial
  | (s, y) :: D, hD => ⟨.inr (hD s y (List.mem_cons_self ..)), exHeap_each fun s y hm => hD s y (List.mem_cons_of_mem _ hm)⟩
theorem exHeap_dynBH {r : Nat} {S : List Nat} {M : List Block} [hM : BlksOk M] {l : Heap} (hr : r < 1000000) (h : exHeap r S l) : exHeap r S (dynBH M l) := by
  refine exHeap_append (exHeap_each fun s y hm => ?_) h
  cases hc : (rowsOfL y.els).contains r with
  | false => rfl
  | true =>
    have := (dynB_rows hm).2 r (by simpa using hc)
    omega
end Go.Pv

