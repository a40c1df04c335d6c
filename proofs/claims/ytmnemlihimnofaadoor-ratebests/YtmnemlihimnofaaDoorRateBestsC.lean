/- RateBests answers true for every input, as its tied card says: under the conditions of the card (Rows, Cards, Tie), no more. Part 3 of 6: by one AI agent and its programs; no person has read it. -/
import Derived.Test.YtmnemlihimnofaaDoorRateBestsA
import Derived.Test.YtmnemlihimnofaaDoorRateBestsB
import Derived.Laws.StructEq
import Derived.ChangeKeysEq
import Derived.Lib.MinMax
import Derived.ProofKit
import Derived.Deep.Slices
import Derived.LaidMore
import Derived.OpenShut
import Derived.Stop.Joined
import Derived.WideKeyArgs
import Derived.Deep.OwnRows
import Derived.Sort.Grow
import Derived.Lib.SlicesCompact
set_option linter.unusedSimpArgs false
set_option linter.unusedVariables false
set_option linter.all false

namespace Go.Pv
def handL (Hc : Heap) (g : Nat → Nat) (H0 : Heap) : Heap → Prop
  | [] => True
  | (r, x) :: l => (r < 1000 ∧ hget Hc (g r) = some (x.ren g) ∧ refsInL H0 x.els) ∧ handL Hc g H0 l
def injOne (g : Nat → Nat) (r : Nat) : Heap → Prop
  | [] => True
  | (s, _) :: l => (g r = g s → r = s) ∧ injOne g r l
def injL (g : Nat → Nat) : Heap → Prop
  | [] => True
  | (r, _) :: l => injOne g r l ∧ injL g l
def backL (Hc H : Heap) (g ρ : Nat → Nat) (H0 : Heap) : Heap → Prop
  | [] => True
  | (r, x) :: l => ((if r < 1000 then match hget H r with
      | some y => ρ r = g r ∧ x.k = y.k ∧ (x.k = 0 ∨ x.els.length = y.els.length)
      | none => False
    else hget Hc (ρ r) = none ∧ 1000 ≤ ρ r) ∧ refsInL H0 x.els ∧ cleanL x.els) ∧ backL Hc H g ρ H0 l
def allIn (H' : Heap) : Heap → Prop
  | [] => True
  | (r, _) :: l => (hget H' r).isSome = true ∧ allIn H' l
def renOf : List (Nat × Nat) → Nat → Nat
  | [], s => s
  | (a, b) :: l, s => if a = s then b else renOf l s
theorem hget_mem : ∀ {H : Heap} {r : Nat} {x : Row}, hget H r = some x → (r, x) ∈ H
  | (s, y) :: l, r, x, h => by
    simp only [hget] at h
    split at h
    · rename_i e; subst e; simp only [Option.some.injEq] at h; subst h; simp
    · exact List.mem_cons_of_mem _ (hget_mem h)
theorem handL_get {Hc : Heap} {g : Nat → Nat} {H0 : Heap} : ∀ {l : Heap}, handL Hc g H0 l → ∀ r x, (r, x) ∈ l → r < 1000 ∧ hget Hc (g r) = some (x.ren g) ∧ refsInL H0 x.els
  | (s, y) :: l, h, r, x, hm => by
    rcases List.mem_cons.1 hm with hm | hm
    · cases hm; exact h.1
    · exact handL_get h.2 r x hm
theorem injOne_get {g : Nat → Nat} {r : Nat} : ∀ {l : Heap}, injOne g r l → ∀ s x, (s, x) ∈ l → g r = g s → r = s
  | (t, y) :: l, h, s, x, hm => by
    rcases List.mem_cons.1 hm with hm | hm
    · cases hm; exact h.1
    · exact injOne_get h.2 s x hm
theorem injL_get {g : Nat → Nat} : ∀ {l : Heap}, injL g l → ∀ r s x y, (r, x) ∈ l → (s, y) ∈ l → g r = g s → r = s
  | (t, z) :: l, h, r, s, x, y, hr, hs, he => by
    rcases List.mem_cons.1 hr with hr | hr <;> rcases List.mem_cons.1 hs with hs | hs
    · cases hr; cases hs; rfl
    · cases hr; exact injOne_get h.1 s y hs he
    · cases hs; exact (injOne_get h.1 r x hr he.symm).symm
    · exact injL_get h.2 r s x y hr hs he
theorem Hand.of {σ : St} {H : Heap} {g : Nat → Nat} (h : handL σ.heap g H H) (hi : injL g H) : Hand σ H g :=
  ⟨fun r x hx => (handL_get h r x (hget_mem hx)).1, fun r x hx => (handL_get h r x (hget_mem hx)).2.1, fun r s x y hx hy => injL_get hi r s x y (hget_mem hx) (hget_mem hy), fun r x hx => (handL_get h r x (hget_mem hx)).2.2⟩
theorem backL_get {Hc H : Heap} {g ρ : Nat → Nat} {H0 : Heap} : ∀ {l : Heap}, backL Hc H g ρ H0 l → ∀ r x, (r, x) ∈ l → (if r < 1000 then match hget H r with
      | some y => ρ r = g r ∧ x.k = y.k ∧ (x.k = 0 ∨ x.els.length = y.els.length)
      | none => False
    else hget Hc (ρ r) = none ∧ 1000 ≤ ρ r) ∧ refsInL H0 x.els ∧ cleanL x.els
  | (s, y) :: l, h, r, x, hm => by
    rcases List.mem_cons.1 hm with hm | hm
    · cases hm; exact h.1
    · exact backL_get h.2 r x hm
theorem allIn_get {H' : Heap} : ∀ {l : Heap}, allIn H' l → ∀ r x, (r, x) ∈ l → (hget H' r).isSome = true
  | (s, y) :: l, h, r, x, hm => by
    rcases List.mem_cons.1 hm with hm | hm
    · cases hm; exact h.1
    · exact allIn_get h.2 r x hm
theorem Back.of {σ : St} {H H' : Heap} {g ρ : Nat → Nat} (h : backL σ.heap H g ρ H' H') (ha : allIn H' H) (hi : injL ρ H') : Back σ H H' g ρ := by
  refine ⟨fun r x hx hlt => ?_, fun r x hx => Option.isSome_iff_exists.1 (allIn_get ha r x (hget_mem hx)), fun r x hx hge => ?_, fun r s x y hx hy => injL_get hi r s x y (hget_mem hx) (hget_mem hy), fun r x hx => (backL_get h r x (hget_mem hx)).2⟩
  · have := (backL_get h r x (hget_mem hx)).1
    rw [if_pos hlt] at this
    split at this
    · rename_i y hy; exact ⟨y, hy, this.1, this.2.1, fun hk => this.2.2.resolve_left (by have := this.2.1; omega)⟩
    · exact this.elim
  · have := (backL_get h r x (hget_mem hx)).1
    rw [if_neg (by omega)] at this
    exact this
attribute [go_sem] handL injOne injL backL allIn renOf
end Go.Pv

namespace Go.Pv
theorem bind_some {α β : Type} {x : Option α} {f : α → Option β} {r : β} (h : x.bind f = some r) : ∃ y, x = some y ∧ f y = some r := by
  cases x with
  | none => cases h
  | some y => exact ⟨y, rfl, h⟩
def idx {α : Type} (l : List α) (i : Int) : Option α := if 0 ≤ i then l[i.toNat]? else none
theorem idx_some {α : Type} {l : List α} {i : Int} {x : α} (h : idx l i = some x) : 0 ≤ i ∧ i < l.length ∧ l[i.toNat]? = some x ∧ i.toNat < l.length := by
  unfold idx at h
  split at h
  · rename_i hi
    obtain ⟨h1, _⟩ := List.getElem?_eq_some_iff.1 h
    exact ⟨hi, by omega, h, h1⟩
  · cases h
theorem idx_nat {α : Type} (l : List α) (i : Nat) : idx l (i : Int) = l[i]? := by
  unfold idx; rw [if_pos (by omega)]; rfl
theorem idx_pos {α : Type} {l : List α} {i : Int} (h : 0 ≤ i) : idx l i = l[i.toNat]? := if_pos h
def iterN {S X : Type} (f : S → Option (S ⊕ X)) : Nat → S → Option X
  | 0, _ => none
  | n + 1, s => (f s).bind fun o => match o with
    | .inl s' => iterN f n s'
    | .inr x => some x
theorem iterN_succ {S X : Type} (f : S → Option (S ⊕ X)) (n : Nat) (s : S) : iterN f (n + 1) s = (f s).bind fun o => match o with
    | .inl s' => iterN f n s'
    | .inr x => some x := rfl
theorem iterN_mono {S X : Type} {f : S → Option (S ⊕ X)} : ∀ {n m : Nat} {s : S} {x : X}, n ≤ m → iterN f n s = some x → iterN f m s = some x
  | 0, _, _, _, _, h => by cases h
  | n + 1, 0, _, _, h, _ => by omega
  | n + 1, m + 1, s, x, h, h' => by
    rw [iterN_succ] at h' ⊢
    obtain ⟨o, h1, h2⟩ := bind_some h'
    rw [h1]
    cases o with
    | inl s' => exact iterN_mono (n := n) (m := m) (by omega) h2
    | inr y => exact h2
open Classical in
noncomputable def iter {S X : Type} (f : S → Option (S ⊕ X)) (s : S) : Option X :=
  if h : ∃ x n, iterN f n s = some x then some (Classical.choose h) else none
theorem iter_some {S X : Type} {f : S → Option (S ⊕ X)} {s : S} {x : X} (h : iter f s = some x) : ∃ n, iterN f n s = some x := by
  unfold iter at h
  split at h
  · rename_i hx
    obtain ⟨n, hn⟩ := Classical.choose_spec hx
    cases h
    exact ⟨n, hn⟩
  · cases h
theorem iter_of {S X : Type} {f : S → Option (S ⊕ X)} {s : S} {x : X} {n : Nat} (h : iterN f n s = some x) : iter f s = some x := by
  have hx : ∃ x n, iterN f n s = some x := ⟨x, n, h⟩
  unfold iter
  rw [dif_pos hx]
  obtain ⟨m, hm⟩ := Classical.choose_spec hx
  have h1 := iterN_mono (Nat.le_max_left n m) h
  have h2 := iterN_mono (Nat.le_max_right n m) hm
  rw [h1] at h2
  exact h2.symm
theorem iter_step {S X : Type} {f : S → Option (S ⊕ X)} {s s' : S} {x : X} (h : f s = some (.inl s')) (h' : iter f s' = some x) : iter f s = some x := by
  obtain ⟨n, hn⟩ := iter_some h'
  exact iter_of (n := n + 1) (by rw [iterN_succ, h]; exact hn)
theorem iter_done {S X : Type} {f : S → Option (S ⊕ X)} {s : S} {x : X} (h : f s = some (.inr x)) : iter f s = some x :=
  iter_of (n := 1) (by rw [iterN_succ, h]; rfl)
theorem iter_inv {S X : Type} {f : S → Option (S ⊕ X)} (I : S → Prop) (R : X → Prop) (μ : S → Nat) (h : ∀ s, I s → ∃ o, f s = some o ∧ match o with | .inl s' => I s' ∧ μ s' < μ s | .inr x => R x) {s : S} (hs : I s) :
    ∃ x, iter f s = some x ∧ R x := by
  obtain ⟨n, hn⟩ : ∃ n, n = μ s := ⟨_, rfl⟩
  induction n using Nat.strongRecOn generalizing s with
  | _ n ih =>
    obtain ⟨o, h1, h2⟩ := h s hs
    cases o with
    | inl s' =>
      obtain ⟨x, h3, h4⟩ := ih (μ s') (by rw [hn]; exact h2.2) h2.1 rfl
      exact ⟨x, iter_step h1 h3, h4⟩
    | inr x => exact ⟨x, iter_done h1, h2⟩
def lenc {α : Type} (f : α → PD) (l : List α) : List PD := l.map f
@[go_sem] theorem lenc_length {α : Type} (f : α → PD) (l : List α) : (lenc f l).length = l.length := by simp [lenc]
@[go_sem] theorem lenc_get {α : Type} (f : α → PD) (l : List α) (i : Nat) : (lenc f l)[i]? = (l[i]?).map f := by simp [lenc]
@[go_sem] theorem lenc_drop {α : Type} (f : α → PD) (l : List α) (n : Nat) : (lenc f l).drop n = lenc f (l.drop n) := by simp [lenc, List.map_drop]
@[go_sem] theorem lenc_take {α : Type} (f : α → PD) (l : List α) (n : Nat) : (lenc f l).take n = lenc f (l.take n) := by simp [lenc, List.map_take]
@[go_sem] theorem lenc_app {α : Type} (f : α → PD) (l m : List α) : dl (lenc f l) ++ dl (lenc f m) = dl (lenc f (l ++ m)) := by simp [dl, lenc]
theorem dl_set_eq {α : Type} {f : α → PD} {L : List α} {i : Nat} {x : PD} {y : α} (h : x = f y) : dl ((lenc f L).set i x) = dl (lenc f (L.set i y)) := by subst h; simp only [lenc, List.map_set]
theorem lenc_snoc {α : Type} (f : α → PD) (l : List α) (x : α) : dl (lenc f l) ++ [PV.d (f x)] = dl (lenc f (l ++ [x])) := by simp [dl, lenc]
theorem lenc_set {α : Type} (f : α → PD) (l : List α) (i : Nat) (x : α) : (lenc f l).set i (f x) = lenc f (l.set i x) := by simp [lenc, List.map_set]
theorem lenc_rep {α : Type} (f : α → PD) (n : Nat) (x : α) : List.replicate n (f x) = lenc f (List.replicate n x) := by simp [lenc]
theorem lenc_nil {α : Type} (f : α → PD) : lenc f [] = [] := rfl
theorem lenc_cons {α : Type} (f : α → PD) (x : α) (l : List α) : lenc f (x :: l) = f x :: lenc f l := rfl
@[go_sem] theorem lenc_snoc_int (k : IntKind) (l : List Int) (x : Int) : dl (lenc (PD.int k) l) ++ [PV.d (.int k x)] = dl (lenc (PD.int k) (l ++ [x])) := lenc_snoc _ l x
@[go_sem] theorem lenc_set_int (k : IntKind) (l : List Int) (i : Nat) (x : Int) : (lenc (PD.int k) l).set i (.int k x) = lenc (PD.int k) (l.set i x) := lenc_set _ l i x
@[go_sem] theorem lenc_snoc2_int (k : IntKind) (l : List Int) (x y : Int) : dl (lenc (PD.int k) l) ++ [PV.d (.int k x), PV.d (.int k y)] = dl (lenc (PD.int k) (l ++ [x, y])) := by simp [dl, lenc]
@[go_sem] theorem lenc_snoc_bool (l : List Bool) (x : Bool) : dl (lenc PD.bool l) ++ [PV.d (.bool x)] = dl (lenc PD.bool (l ++ [x])) := lenc_snoc _ l x
@[go_sem] theorem lenc_set_bool (l : List Bool) (i : Nat) (x : Bool) : (lenc PD.bool l).set i (.bool x) = lenc PD.bool (l.set i x) := lenc_set _ l i x
@[go_sem] theorem lenc_rep_bool (n : Nat) (x : Bool) : List.replicate n (PD.bool x) = lenc PD.bool (List.replicate n x) := lenc_rep _ n x
@[go_sem] theorem lenc_snoc_str (l : List ByteArray) (x : ByteArray) : dl (lenc PD.str l) ++ [PV.d (.str x)] = dl (lenc PD.str (l ++ [x])) := lenc_snoc _ l x
@[go_sem] theorem lenc_set_str (l : List ByteArray) (i : Nat) (x : ByteArray) : (lenc PD.str l).set i (.str x) = lenc PD.str (l.set i x) := lenc_set _ l i x
@[go_sem] theorem lenc_rep_str (n : Nat) (x : ByteArray) : List.replicate n (PD.str x) = lenc PD.str (List.replicate n x) := lenc_rep _ n x
theorem ints_lenc (l : List Int) : ints l = lenc (PD.int .i64) l := rfl
def slenc {α : Type} (k : Nat) (f : α → PD) (l : List α) : PD := .imm k (lenc f l)
@[go_sem] theorem slenc_eq {α : Type} (k : Nat) (f : α → PD) (l : List α) : slenc k f l = .imm k (lenc f l) := rfl
@[go_sem] theorem lenc_snoc_slc {α : Type} (k : Nat) (f : α → PD) (l : List (List α)) (x : List α) : dl (lenc (slenc k f) l) ++ [PV.d (.imm k (lenc f x))] = dl (lenc (slenc k f) (l ++ [x])) := lenc_snoc _ l x
@[go_sem] theorem lenc_set_slc {α : Type} (k : Nat) (f : α → PD) (l : List (List α)) (i : Nat) (x : List α) : (lenc (slenc k f) l).set i (.imm k (lenc f x)) = lenc (slenc k f) (l.set i x) := lenc_set _ l i x
mutual
def leD : PD → PD → Prop
  | .nilslice, .imm _ [] => True
  | .imm k l, .imm k' m => k = k' ∧ leDL l m
  | .agg l, .agg m => leDL l m
  | x, y => x = y
def leDL : List PD → List PD → Prop
  | [], [] => True
  | x :: l, y :: m => leD x y ∧ leDL l m
  | _, _ => False
end
mutual
theorem leD_refl : ∀ x : PD, leD x x
  | .imm k l => by simp only [leD]; exact ⟨trivial, leDL_refl l⟩
  | .agg l => by simp only [leD]; exact leDL_refl l
  | .bool _ => by simp only [leD]
  | .int _ _ => by simp only [leD]
  | .str _ => by simp only [leD]
  | .nilptr => by simp only [leD]
  | .nilslice => by simp only [leD]
  | .nilmap => by simp only [leD]
  | .nilfunc => by simp only [leD]
  | .niliface => by simp only [leD]
  | .fn _ => by simp only [leD]
  | .iface _ _ => by simp only [leD]
theorem leDL_refl : ∀ l : List PD, leDL l l
  | [] => by simp only [leDL]
  | x :: l => by simp only [leDL]; exact ⟨leD_refl x, leDL_refl l⟩
end
theorem leDL_get : ∀ {l m : List PD}, leDL l m → l.length = m.length ∧ ∀ i (hi : i < l.length) (hi' : i < m.length), leD l[i] m[i]
  | [], [], _ => ⟨rfl, fun i hi => by simp at hi⟩
  | x :: l, y :: m, h => by
    simp only [leDL] at h
    obtain ⟨h1, h2⟩ := leDL_get h.2
    refine ⟨by simp [h1], fun i hi hi' => ?_⟩
    cases i with
    | zero => exact h.1
    | succ i => simpa using h2 i (by simpa using hi) (by simpa using hi')
  | [], _ :: _, h => by simp [leDL] at h
  | _ :: _, [], h => by simp [leDL] at h
theorem RepD.le {w : World} {ok : Nat → Nat → Prop} {v : Value} {x : PD} (h : RepD w ok v x) : ∀ {y : PD}, leD x y → RepD w ok v y := by
  induction h with
  | bool b => intro y h; cases y <;> simp only [leD, reduceCtorEq, PD.bool.injEq] at h; subst h; exact .bool _
  | int k n => intro y h; cases y <;> simp only [leD, reduceCtorEq, PD.int.injEq] at h; obtain ⟨rfl, rfl⟩ := h; exact .int _ _
  | str s => intro y h; cases y <;> simp only [leD, reduceCtorEq, PD.str.injEq] at h; subst h; exact .str _
  | nilptr => intro y h; cases y <;> simp only [leD, reduceCtorEq] at h; exact .nilptr
  | nilslice =>
    intro y h
    cases y with
    | nilslice => exact .nilslice
    | imm k l => cases l with
      | nil => exact .imm0 k
      | cons => simp [leD] at h
    | _ => simp [leD] at h
  | nilmap => intro y h; cases y <;> simp only [leD, reduceCtorEq] at h; exact .nilmap
  | nilfunc => intro y h; cases y <;> simp only [leD, reduceCtorEq] at h; exact .nilfunc
  | niliface => intro y h; cases y <;> simp only [leD, reduceCtorEq] at h; exact .niliface
  | fn f => intro y h; cases y <;> simp only [leD, reduceCtorEq, PD.fn.injEq] at h; subst h; exact .fn _
  | iface t hv ih => intro y h; cases y <;> simp only [leD, reduceCtorEq, PD.iface.injEq] at h; obtain ⟨rfl, rfl⟩ := h; exact .iface _ hv
  | agg hs _ hf ih =>
    intro y h
    cases y with
    | agg m =>
      simp only [leD] at h
      obtain ⟨h1, h2⟩ := leDL_get h
      exact .agg (by rw [hs, h1]) (fun i hi => ih i (h1 ▸ hi) (h2 i (h1 ▸ hi) hi)) (fun i hi => hf i (h1 ▸ hi))
    | _ => simp [leD] at h
  | imm0 k =>
    intro y h
    cases y with
    | imm k' m =>
      simp only [leD] at h
      obtain ⟨rfl, h⟩ := h
      obtain ⟨h1, _⟩ := leDL_get h
      have : m = [] := by simpa using h1.symm
      subst this; exact .imm0 _
    | _ => simp [leD] at h
  | @imm a n cap k els F ha hb hn hcap _ hk hf hc hz ih =>
    intro y h
    cases y with
    | imm k' m =>
      simp only [leD] at h
      obtain ⟨rfl, h⟩ := h
      obtain ⟨h1, h2⟩ := leDL_get h
      exact .imm F (fun hne => ha (fun e => hne (by subst e; simpa using h1.symm))) (fun hne => hb (fun e => hne (by subst e; simpa using h1.symm))) (by rw [hn, h1]) hcap (fun i hi => ih i (h1 ▸ hi) (h2 i (h1 ▸ hi) hi)) (fun i hi => hk i (h1 ▸ hi)) (fun i hi => hf i (h1 ▸ hi)) (fun i hi => hc i (h1 ▸ hi)) (fun i hi => hz i (h1 ▸ hi))
    | _ => simp [leD] at h
mutual
def leV : PV → PV → Prop
  | _, .any => True
  | .d x, .d y => leD x y
  | .b x, .b y => leD x y
  | .d x, .b y => leD x y
  | .tuple l, .tuple m => leVL l m
  | x, y => x = y
def leVL : List PV → List PV → Prop
  | [], [] => True
  | x :: l, y :: m => leV x y ∧ leVL l m
  | _, _ => False
end
theorem leVL_get : ∀ {l m : List PV}, leVL l m → l.length = m.length ∧ ∀ i (hi : i < l.length) (hi' : i < m.length), leV l[i] m[i]
  | [], [], _ => ⟨rfl, fun i hi => by simp at hi⟩
  | x :: l, y :: m, h => by
    simp only [leVL] at h
    obtain ⟨h1, h2⟩ := leVL_get h.2
    refine ⟨by simp [h1], fun i hi hi' => ?_⟩
    cases i with
    | zero => exact h.1
    | succ i => simpa using h2 i (by simpa using hi) (by simpa using hi')
  | [], _ :: _, h => by simp [leVL] at h
  | _ :: _, [], h => by simp [leVL] at h
section
variable {P : Program} {G : List (Nat × PD)} {ro : Option Nat} {N : Nat} {σ τ : St} {w : World} {X : Nat → Nat → Prop} {φ : Nm} {H H' : Heap}
theorem RepV.le {v : Value} {p : PV} (h : RepV w X φ H v p) : ∀ {q : PV}, leV p q → RepV w X φ H v q := by
  induction h with
  | any v => intro q h; cases q <;> simp only [leV, reduceCtorEq] at h; exact .any _
  | d hd => intro q h; cases q <;> simp only [leV, reduceCtorEq] at h <;> first | exact .any _ | exact .d (hd.le h) | exact (RepV.d (hd.le h)).toB
  | b hd => intro q h; cases q <;> simp only [leV, reduceCtorEq] at h <;> first | exact .any _ | exact .b (hd.le h)
  | mp h1 h2 h3 => intro q h; cases q <;> simp only [leV, reduceCtorEq, PV.mp.injEq] at h <;> first | exact .any _ | (subst h; exact .mp h1 h2 h3)
  | ptr h1 h2 h3 => intro q h; cases q <;> simp only [leV, reduceCtorEq, PV.ptr.injEq] at h <;> first | exact .any _ | (obtain ⟨rfl, rfl, rfl⟩ := h; exact .ptr h1 h2 h3)
  | dptr hd hi => intro q h; cases q <;> simp only [leV, reduceCtorEq, PV.dptr.injEq] at h <;> first | exact .any _ | (obtain ⟨rfl, rfl, rfl, rfl⟩ := h; exact .dptr hd hi)
  | bptr hd hi => intro q h; cases q <;> simp only [leV, reduceCtorEq, PV.bptr.injEq] at h <;> first | exact .any _ | (obtain ⟨rfl, rfl, rfl, rfl⟩ := h; exact .bptr hd hi)
  | glob g => intro q h; cases q <;> simp only [leV, reduceCtorEq, PV.glob.injEq] at h <;> first | exact .any _ | (subst h; exact .glob _)
  | val hf => intro q h; cases q <;> simp only [leV, reduceCtorEq, PV.val.injEq] at h <;> first | exact .any _ | (subst h; exact .val hf)
  | slc h1 h2 h7 h3 h4 h5 h6 => intro q h; cases q <;> simp only [leV, reduceCtorEq, PV.slc.injEq] at h <;> first | exact .any _ | (obtain ⟨rfl, rfl, rfl⟩ := h; exact .slc h1 h2 h7 h3 h4 h5 h6)
  | slc0 h1 h2 h7 h3 => intro q h; cases q <;> simp only [leV, reduceCtorEq, PV.slc.injEq] at h <;> first | exact .any _ | (obtain ⟨rfl, rfl, rfl⟩ := h; exact .slc0 h1 h2 h7 h3)
  | func hs hv ih => intro q h; cases q <;> simp only [leV, reduceCtorEq, PV.func.injEq] at h <;> first | exact .any _ | (obtain ⟨rfl, rfl⟩ := h; exact .func hs hv)
  | agg hs hv hf ih => intro q h; cases q <;> simp only [leV, reduceCtorEq, PV.agg.injEq] at h <;> first | exact .any _ | (subst h; exact .agg hs hv hf)
  | tuple hs hv ih =>
    intro q h
    cases q <;> simp only [leV, reduceCtorEq] at h
    · exact .any _
    · obtain ⟨h1, h2⟩ := leVL_get h
      exact .tuple (by rw [hs, h1]) (fun i hi => ih i (h1 ▸ hi) (h2 i (h1 ▸ hi) hi))
def envCv (H H' : Heap) (e : List (Nat × PV)) : List (Nat × PV) → Prop
  | [] => True
  | (t, v) :: l => ((leV (eget e t) v ∧ refsIn H' v) ∨ (∃ u, frzT H (eget e t) = some u ∧ leV u v ∧ ∀ r ∈ rowsOf (eget e t), hget H' r = none)) ∧ envCv H H' e l
theorem envCv_get {H H' : Heap} {e : List (Nat × PV)} : ∀ {l : List (Nat × PV)}, envCv H H' e l → ∀ t, eget l t = .any ∨ (leV (eget e t) (eget l t) ∧ refsIn H' (eget l t)) ∨ (∃ u, frzT H (eget e t) = some u ∧ leV u (eget l t) ∧ ∀ r ∈ rowsOf (eget e t), hget H' r = none)
  | [], _, _ => .inl rfl
  | (s, v) :: l, h, t => by
    simp only [eget]
    split
    · rename_i hs; subst hs; exact .inr h.1
    · exact envCv_get h.2 t
theorem Sub.cv (h2 : heapLe τ.heap σ.heap) (h1 : envCv σ.heap τ.heap σ.env τ.env) (h4 : heapRefs τ.heap τ.heap) (h5 : σ.dfr = τ.dfr ∧ refsInL τ.heap τ.dfr ∧ σ.gh = τ.gh) : Sub G N σ τ := by
  intro P B a w φ hr
  refine ⟨φ, Rep.of_sit (h5.2.2 ▸ hr.sit.less (heapLe_get h2) (heapRefs_get h4)) hr.size (fun t => ?_) (h5.2.2 ▸ ((h5.1 ▸ hr.dfr).less (heapLe_get h2) h5.2.1))⟩
  rcases envCv_get h1 t with h | ⟨h, h'⟩ | ⟨u, h, hu, h'⟩
  · rw [h]; exact .any _
  · exact ((hr.env t).le h).less (heapLe_get h2) h'
  · exact (frzT_in hr.heap (heapLe_get h2) (hr.env t) h' h).le hu
theorem PureFn.intro2 {f : FuncId} {fn : Func} {c : Code} {args : List PV} {res : PV} (hf : P.funcs[f]? = some fn) (hb : fn.body = some c) (hN : args.length ≤ fn.ntmps)
    (h : AWp P G none fn.ntmps c ⟨argEnv 0 args, [], [], none⟩ (Fin P G fn fun p H => ∃ u, frzT H p = some u ∧ leV u res)) : PureFn P G f args res := by
  intro B φ vs h0 h1 h2 h3
  refine (Fn.intro hf hb hN h B φ vs h0 h1 h2 h3).mono ?_
  rintro e w' ⟨v, p, H', g', φ', he, ⟨u, hu, hle⟩, hv, hs⟩
  exact ⟨v, res, [], g', φ', he, ⟨rfl, rfl⟩, (frzT_ok hs.heap hv hu).le hle, hs.drop⟩
def gnone (σ : St) (ds : List (Option Tmp)) (j : Nat) : Bool :=
  match ds[j]? with
  | some (some d) => match eget σ.env d with
    | .tuple [] => true
    | _ => false
  | _ => false
def vcOpU (P : Program) (G : List (Nat × PD)) (ro : Option Nat) (N : Nat) (ds : List (Option Tmp)) (o : Oper) (σ : St) (K : St → Prop) : Prop :=
  match o.guard with
  | none => vcStep P G ro N o σ K
  | some (j, want) => match gval σ ds j with
    | some b => (b = want → vcStep P G ro N o σ K) ∧ (b ≠ want → dstOk N o.dst ∧ K (σ.put o.dst (.tuple [])))
    | none => gnone σ ds j = true ∧ dstOk N o.dst ∧ K (σ.put o.dst (.tuple []))
variable {o : Oper} {K : St → Prop} {ops : Array Oper}
theorem repV_undef : RepV w X φ H undef (.tuple []) := .tuple rfl (fun i hi => by simp at hi)
theorem repV_tuple0 {v : Value} (h : RepV w X φ H v (.tuple [])) : v = undef := by
  cases h with
  | tuple hs =>
    have := Array.eq_empty_of_size_eq_zero (by simpa using hs)
    rw [this]; rfl
theorem Oper.wpIn_off {F : Fence} {n : Nat} {P : Program} {o : Oper} {a : Act} {w : World} {K K' : Act → World → Prop} {Q Q' : Exit → Act → World → Prop} (h : ∀ a w, K a w → K' a w) (hq : ∀ e a w, e ≠ .normal → Q e a w → Q' e a w)
    (hh : o.wpIn F n P a w K Q) : o.wpIn F n P a w K' Q' := by
  refine ⟨hh.1, ?_⟩
  have hh := hh.2
  generalize (o.semAt F.round a.eval).run P w = r at *
  cases r with
  | ok x w' =>
    cases x <;> simp only [Oper.uponIn] at hh ⊢ <;>
      first
        | exact h _ _ hh
        | exact ⟨hh.1, CallsIn.mono hh.2 (fun e w'' he => by cases e <;> first | exact h _ _ he | exact hq _ _ _ (by simp) he | (obtain ⟨a, w, he⟩ := he; exact ⟨a, w, hq _ _ _ (by simp) he⟩))⟩
        | exact ⟨hh.1, RowsIn.mono hh.2 (fun _ _ he => h _ _ he)⟩
        | exact ⟨hh.1, RoundIn.mono hh.2 (fun e w'' he => by cases e <;> first | exact h _ _ he | exact hq _ _ _ (by simp) he | (obtain ⟨a, w, he⟩ := he; exact ⟨a, w, hq _ _ _ (by simp) he⟩))⟩
  | halt x w' => cases x <;> simp only [Oper.uponIn] at hh ⊢ <;> first | exact hh | exact hq _ _ _ (by simp) hh
theorem gnone_ok {B : Base P} {a : Act} (hr : Rep G B N σ a w φ) {j : Nat} (h : gnone σ (dsts ops) j = true) (want : Bool) : (yielded ops a.tmps j == some want) = false := by
  unfold gnone at h
  split at h <;> try (simp at h; done)
  rename_i d hds
  have hod : ∃ o, ops[j]? = some o ∧ o.dst = some d := by
    simp only [dsts, List.getElem?_map, Option.map_eq_some_iff] at hds
    obtain ⟨o, h1, h2⟩ := hds
    exact ⟨o, by simpa using h1, h2⟩
  obtain ⟨o, ho, hd⟩ := hod
  split at h <;> try (simp at h; done)
  rename_i hb
  have hv := hr.env d
  rw [hb] at hv
  have hv := repV_tuple0 hv
  have hy : yielded ops a.tmps j = none := by
    unfold yielded
    rw [ho]
    simp only [Option.bind_some, hd]
    rcases Nat.lt_or_ge d a.tmps.size with h | h
    · rw [Array.getElem?_eq_getElem h]
      have : a.tmps[d] = undef := by simpa [Array.getD, h] using hv
      rw [this]; rfl
    · rw [Array.getElem?_eq_none h]
  rw [hy]; rfl
theorem AOps.skip {rest : List Oper} {Q : St → Prop} {j : Nat} {want : Bool} (hg : o.guard = some (j, want)) (hn : gnone σ (dsts ops) j = true) (hd : dstOk N o.dst) (h : AOps P G ro N ops rest (σ.put o.dst (.tuple [])) Q) :
    AOps P G ro N ops (o :: rest) σ Q := by
  intro B hro a w φ hr Q' hq
  have hy := gnone_ok hr hn want
  simp only [wpL, Region.wanted, hg, hy, Bool.false_eq_true, if_false]
  exact ⟨fun _ _ => trivial, h B hro _ w φ (hr.put hd repV_undef) Q' hq⟩
theorem AOps.guardedU {o : Oper} {rest : List Oper} {Q : St → Prop} {j : Nat} {want b : Bool} (hg : o.guard = some (j, want)) (hb : gval σ (dsts ops) j = some b)
    (h1 : b = want → OpT P G ro N o σ (fun σ' => AOps P G ro N ops rest σ' Q)) (hd : dstOk N o.dst) (h2 : b ≠ want → AOps P G ro N ops rest (σ.put o.dst (.tuple [])) Q) : AOps P G ro N ops (o :: rest) σ Q := by
  intro B hro a w φ hr Q' hq
  have hy := gval_ok hr hb
  by_cases h : b = want
  · simp only [wpL, Region.wanted, hg, hy, h, beq_self_eq_true, if_true]
    exact h1 h B hro a w φ hr _ _ fun σ' a' w' φ' h1 h2 => h1 B hro a' w' φ' h2 Q' hq
  · have : (some b == some want) = false := by simp [h]
    simp only [wpL, Region.wanted, hg, hy, this, Bool.false_eq_true, if_false]
    exact ⟨fun _ _ => trivial, h2 h B hro _ w φ (hr.put hd repV_undef) Q' hq⟩
theorem AOps.consU {rest : List Oper} {Q : St → Prop} (h : ∀ K : St → Prop, (∀ σ, AOps P G ro N ops rest σ Q → K σ) → vcOpU P G ro N (dsts ops) o σ K) : AOps P G ro N ops (o :: rest) σ Q := by
  have h := h _ (fun _ h => h)
  unfold vcOpU at h
  split at h
  · rename_i hg; exact AOps.step hg (OpT.vc h)
  · rename_i j want hg
    split at h
    · rename_i b hb
      by_cases hbw : b = want
      · exact AOps.guardedU hg hb (fun hb => OpT.vc (h.1 hb)) (h.1 hbw).1 (fun hb => (h.2 hb).2)
      · exact AOps.guardedU hg hb (fun hb => OpT.vc (h.1 hb)) (h.2 hbw).1 (fun hb => (h.2 hb).2)
    · exact AOps.skip hg h.1 h.2.1 h.2.2
theorem AOps.cut {l : List Oper} {Q : St → Prop} (n : Nat) (τ : St) (h1 : AOps P G ro N ops (l.take n) σ (fun σ' => Sub G N σ' τ)) (h2 : AOps P G ro N ops (l.drop n) τ Q) : AOps P G ro N ops l σ Q := by
  have key : ∀ (l m : List Oper) (Q' : Exit → Act → World → Prop) (a : Act) (w : World), wpL (Fw ro) 0 P ops (fun e a w => match e with | .normal => wpL (Fw ro) 0 P ops Q' m a w | e => Q' e a w) l a w → wpL (Fw ro) 0 P ops Q' (l ++ m) a w := by
    intro l
    induction l with
    | nil => intro m Q' a w h; exact h
    | cons o l ih =>
      intro m Q' a w h
      simp only [List.cons_append, wpL] at h ⊢
      split at h
      · rename_i hw
        rw [if_pos hw]
        exact Oper.wpIn_off (fun a w h => ih m Q' a w h) (fun e a w hne h => by
          cases e <;> first | exact absurd rfl hne | exact h) h
      · rename_i hw
        rw [if_neg hw]
        exact ⟨h.1, ih m Q' _ w h.2⟩
  intro B hro a w φ hr Q' hq
  rw [← List.take_append_drop n l]
  refine key _ _ _ _ _ (h1 B hro a w φ hr _ fun σ' a' w' φ' hs hr' => ?_)
  obtain ⟨φ'', hr''⟩ := hs P B a' w' φ' hr'
  exact h2 B hro a' w' φ'' hr'' Q' hq
mutual
theorem leV_refl : ∀ p : PV, leV p p
  | .any => by simp only [leV]
  | .d x => by simp only [leV]; exact leD_refl x
  | .b x => by simp only [leV]; exact leD_refl x
  | .ptr .. => by simp only [leV]
  | .dptr .. => by simp only [leV]
  | .bptr .. => by simp only [leV]
  | .glob _ => by simp only [leV]
  | .val _ => by simp only [leV]
  | .slc .. => by simp only [leV]
  | .mp _ => by simp only [leV]
  | .func .. => by simp only [leV]
  | .agg _ => by simp only [leV]
  | .tuple l => by
    simp only [leV]; exact leVL_refl l
theorem leVL_refl : ∀ l : List PV, leVL l l
  | [] => by simp only [leVL]
  | p :: l => by simp only [leVL]; exact ⟨leV_refl p, leVL_refl l⟩
end
end
attribute [go_sem] vcOpU gnone ints_lenc cond_true cond_false decide_true decide_false Bool.not_true Bool.not_false Bool.or_true Bool.or_false Bool.true_or Bool.false_or Bool.and_true Bool.and_false Bool.true_and Bool.false_and Nat.zero_add Nat.add_zero Nat.zero_le true_and and_true and_self ne_eq not_false_eq_true not_true_eq_false Bool.false_eq_true false_implies true_implies forall_const
  List.length_cons List.length_nil List.toList_toArray List.getElem?_cons_zero List.getElem?_cons_succ List.set_cons_zero List.set_cons_succ List.map_cons List.map_nil List.drop_zero List.drop_succ_cons List.take_succ_cons List.take_zero List.lookup_cons List.append_nil List.nil_append List.cons_append Option.map_some Option.map_none Option.getD_some Option.getD_none Option.bind_some Option.some.injEq Option.isSome_some Option.isSome_none
end Go.Pv

namespace Go.Pv
section
variable {P : Program} {G : List (Nat × PD)} {ro : Option Nat} {N : Nat} {σ τ : St} {w w' : World} {X : Nat → Nat → Prop} {φ φ' : Nm} {H H' : Heap} {o : Oper} {K : St → Prop} {ops : Array Oper} {B : Base P} {a a' : Act}
mutual
theorem refsIn_of : ∀ {p : PV}, (∀ r ∈ rowsOf p, (hget H r).isSome = true) → refsIn H p
  | .ptr r _ _, h => by simp only [refsIn]; exact h r (by simp [rowsOf])
  | .slc r _ _, h => by simp only [refsIn]; exact h r (by simp [rowsOf])
  | .mp r, h => by simp only [refsIn]; exact h r (by simp [rowsOf])
  | .func _ l, h => by simp only [refsIn]; exact refsInL_of (fun r hr => h r (by simpa [rowsOf] using hr))
  | .agg l, h => by simp only [refsIn]; exact refsInL_of (fun r hr => h r (by simpa [rowsOf] using hr))
  | .tuple l, h => by simp only [refsIn]; exact refsInL_of (fun r hr => h r (by simpa [rowsOf] using hr))
  | .any, _ => by simp only [refsIn]
  | .d _, _ => by simp only [refsIn]
  | .b _, _ => by simp only [refsIn]
  | .dptr .., _ => by simp only [refsIn]
  | .bptr .., _ => by simp only [refsIn]
  | .glob _, _ => by simp only [refsIn]
  | .val _, _ => by simp only [refsIn]
theorem refsInL_of : ∀ {l : List PV}, (∀ r ∈ rowsOfL l, (hget H r).isSome = true) → refsInL H l
  | [], _ => by simp only [refsInL]
  | p :: l, h => by
    simp only [refsInL]
    exact ⟨refsIn_of (fun r hr => h r (by simp [rowsOfL, hr])), refsInL_of (fun r hr => h r (by simp [rowsOfL, hr]))⟩
end
theorem rowsOfL_all : ∀ {ps : List PV}, (∀ i (hi : i < ps.length), ∀ r ∈ rowsOf ps[i], (hget H r).isSome = true) → ∀ r ∈ rowsOfL ps, (hget H r).isSome = true := by
  intro ps
  induction ps with
  | nil => intro _ r hr; simp [rowsOfL] at hr
  | cons p l ih =>
    intro h r hr
    simp only [rowsOfL, List.mem_append] at hr
    rcases hr with hr | hr
    · exact h 0 (by simp) r hr
    · exact ih (fun i hi => h (i + 1) (by simpa using hi)) r hr
theorem Rep.refs (hr : Rep G B N σ a w φ) : ∀ s y, hget σ.heap s = some y → refsInL σ.heap y.els := by
  intro s y hy
  refine refsInL_of fun r hrr => ?_
  cases hφ : φ s with
  | none => rw [hr.heap.void s y hy hφ] at hrr; simp [rowsOfL] at hrr
  | some b =>
    exact rowsOfL_all (fun i hi => by obtain ⟨v, h4⟩ := (hr.heap.rows s y b hy hφ).el i hi; exact h4.rows) r hrr
theorem Dfr.refs {m : Nat → Prop} {ds : List Deferred} {ps : List PV} (h : Dfr m w X φ H ds ps) : refsInL H ps := by
  induction h with
  | nil => simp only [refsInL]
  | fn h1 h2 h3 _ ih => simp only [refsInL]; exact ⟨refsIn_of h3.rows, ih⟩
  | mark _ _ _ _ _ ih => exact ih
theorem Rep.forget (hr0 : Rep G B N σ a w φ) {r n : Nat} {row : Row} {dst : Option Tmp} {v : PV} (hr : Rep G B N (({ σ with heap := hput σ.heap r row } : St).put dst (.slc r 0 n)) a' w' φ') (hn : hget σ.heap r = none)
    (hd : dstOk N dst) (hf : frzT (hput σ.heap r row) (.slc r 0 n) = some v) : Rep G B N (σ.put dst v) a' w' φ' := by
  have hle : ∀ s y, hget σ.heap s = some y → hget (hput σ.heap r row) s = some y := fun s y h => by
    rw [hget_hput, if_neg (fun e => by subst e; rw [hn] at h; cases h)]; exact h
  have hheap : ((({ σ with heap := hput σ.heap r row } : St).put dst (.slc r 0 n))).heap = hput σ.heap r row := by cases dst <;> rfl
  have hgh : ((({ σ with heap := hput σ.heap r row } : St).put dst (.slc r 0 n))).gh = σ.gh := by cases dst <;> rfl
  have hdfr : ((({ σ with heap := hput σ.heap r row } : St).put dst (.slc r 0 n))).dfr = σ.dfr := by cases dst <;> rfl
  have hsit := hr.sit
  rw [hheap, hgh] at hsit
  have hs := hsit.less hle hr0.refs
  have hd' := hr.dfr
  rw [hheap, hgh, hdfr] at hd'
  refine Rep.of_sit (by cases dst <;> exact hs) hr.size (fun t => ?_) (by cases dst <;> exact hd'.less hle hr0.dfr.refs)
  have he := hr.env t
  rw [hheap] at he
  have hh2 : (σ.put dst v).heap = σ.heap := by cases dst <;> rfl
  rw [hh2]
  cases dst with
  | none => exact he.less hle (refsIn_of (hr0.env t).rows)
  | some d =>
    simp only [St.put, eget_eput] at he ⊢
    split at he
    · rename_i h; rw [if_pos h]
      exact frzT_in hsit.heap hle he (fun s hs => by simp only [rowsOf, List.mem_singleton] at hs; subst hs; exact hn) hf
    · rename_i h; rw [if_neg h]
      exact he.less hle (refsIn_of (hr0.env t).rows)
def litO (P : Program) (σ : St) (op : Op) : Option PV :=
  match op with
  | .buildSlice t len parts => match sliceElem P t with
    | some (_, z) => if zeroOk z = true ∧ inOrder 0 parts.toList = true ∧ parts.toList.length = len ∧ sizesOk z.size (evalL σ (parts.toList.map (·.2))) = true ∧ len * z.size ≤ 16777216 then
        (allD (evalL σ (parts.toList.map (·.2)))).map fun l => .d (.imm z.size l) else none
    | none => none
  | _ => none
theorem evalL_len (σ : St) : ∀ l : List Operand, (evalL σ l).length = l.length
  | [] => rfl
  | x :: l => by simp [evalL, evalL_len σ l]
theorem OpT.litD {v : PV} (h : litO P σ o.op = some v) (hd : dstOk N o.dst) (hK : K (σ.put o.dst v)) : OpT P G ro N o σ K := by
  unfold litO at h
  split at h <;> try (simp at h; done)
  rename_i t len parts ho
  split at h <;> try (simp at h; done)
  rename_i e z hse
  split at h <;> try (simp at h; done)
  rename_i hc
  obtain ⟨h1, h2, h3, h4, h5⟩ := hc
  simp only [Option.map_eq_some_iff] at h
  obtain ⟨l, hl, rfl⟩ := h
  obtain ⟨y, hy, hde, he⟩ := sliceElem_parts hse
  obtain ⟨zv, h6, h7, h8⟩ := zeroOk_some h1
  intro B hro a w φ hr next Q hn
  refine OpT.buildSlice (K := fun τ => τ = (({ σ with heap := hput σ.heap (fresh σ.heap) { e, k := z.size, els := evalL σ (parts.toList.map (·.2)) } } : St).put o.dst (.slc (fresh σ.heap) 0 len))) ho hy hde he h6 h7 h8 h2 h3 h4 h5 hd (hget_fresh _) (fresh_ge _) rfl B hro a w φ hr next Q ?_
  rintro τ a' w' φ' rfl hr'
  refine hn _ _ _ φ' hK (hr.forget hr' (hget_fresh _) hd ?_)
  have hlen : l.length = len := by
    have := congrArg List.length (allD_some _ _ hl)
    simp only [List.length_map, evalL_len] at this
    rw [← h3]; simpa using this.symm
  simp only [frzT, frz, hget_hput, if_true, hl, Option.map_some, List.drop_zero]
  rw [List.take_of_length_le (by omega)]
def vcStepL (P : Program) (N : Nat) (o : Oper) (σ : St) (K : St → Prop) : Prop :=
  dstOk N o.dst ∧ match litO P σ o.op with
    | some v => K (σ.put o.dst v)
    | none => False
def vcOpL (P : Program) (N : Nat) (ds : List (Option Tmp)) (o : Oper) (σ : St) (K : St → Prop) : Prop :=
  match o.guard with
  | none => vcStepL P N o σ K
  | some (j, want) => match gval σ ds j with
    | some b => (b = want → vcStepL P N o σ K) ∧ (b ≠ want → dstOk N o.dst ∧ K (σ.put o.dst (.tuple [])))
    | none => gnone σ ds j = true ∧ dstOk N o.dst ∧ K (σ.put o.dst (.tuple []))
theorem OpT.vcL (h : vcStepL P N o σ K) : OpT P G ro N o σ K := by
  obtain ⟨hd, h⟩ := h
  split at h
  · rename_i v hv; exact OpT.litD hv hd h
  · exact h.elim
theorem AOps.consL {rest : List Oper} {Q : St → Prop} (h : ∀ K : St → Prop, (∀ σ, AOps P G ro N ops rest σ Q → K σ) → vcOpL P N (dsts ops) o σ K) : AOps P G ro N ops (o :: rest) σ Q := by
  have h := h _ (fun _ h => h)
  unfold vcOpL at h
  split at h
  · rename_i hg; exact AOps.step hg (OpT.vcL h)
  · rename_i j want hg
    split at h
    · rename_i b hb
      by_cases hbw : b = want
      · exact AOps.guardedU hg hb (fun hb => OpT.vcL (h.1 hb)) (h.1 hbw).1 (fun hb => (h.2 hb).2)
      · exact AOps.guardedU hg hb (fun hb => OpT.vcL (h.1 hb)) (h.2 hbw).1 (fun hb => (h.2 hb).2)
    · exact AOps.skip hg h.1 h.2.1 h.2.2
theorem litO_agree {σ' : St} {op : Op} (h : ∀ x ∈ opnds op, σ'.eval x = σ.eval x) : litO P σ' op = litO P σ op := by
  cases op <;> try rfl
  case buildSlice t len parts =>
    simp only [litO]
    rw [evalL_agree (σ := σ) (σ' := σ') (l := parts.toList.map (·.2)) (by simpa [opnds] using h)]
theorem OpD.lit {xs : Exc} {v : PV} (h : litO P σ o.op = some v) (hd : dstOk N o.dst) (hx : exE xs (dstEff o.dst v)) :
    OpD P G ro N xs o σ (some (tmpKeys (opnds o.op), dstKeys o.dst)) (σ.put o.dst v) := by
  refine ⟨dstEff o.dst v, fun k hk => by rw [ekeys_dst] at hk; exact hk, hx, fun σ' hd' hs _ => ?_, look_put _ _ _, St.put_rest _ _ _⟩
  have h1 := eval_agree (σ := σ) (σ' := σ') (l := opnds o.op) fun k hk => hs k hk
  exact OpT.litD (by rw [litO_agree h1]; exact h) hd ⟨by rw [St.put_rest]; exact hd', look_put _ _ _⟩
def dvStepL (P : Program) (N : Nat) (xs : Exc) (o : Oper) (σ : St) (K : Foot → St → Prop) : Prop :=
  dstOk N o.dst ∧ match litO P σ o.op with
  | some v => exE xs (dstEff o.dst v) ∧ K (some (tmpKeys (opnds o.op), dstKeys o.dst)) (σ.put o.dst v)
  | none => False
theorem DOps.consL {xs : Exc} {rest : List Oper} {acc : List Foot} {Q : St → Prop} (hg : o.guard = none) (h : ∀ K : Foot → St → Prop, (∀ f σ1, DOps P G ro N xs ops Q rest (acc ++ [f]) σ1 → K f σ1) → dvStepL P N xs o σ K) :
    DOps P G ro N xs ops Q (o :: rest) acc σ := by
  have h := h (fun f σ1 => DOps P G ro N xs ops Q rest (acc ++ [f]) σ1) (fun _ _ h => h)
  obtain ⟨hd, h⟩ := h
  split at h
  · rename_i v hv
    exact .step (DStep.plain hg (OpD.lit hv hd h.1)) h.2
  · exact h.elim
def heapCv : Heap → Heap → Prop
  | [], _ => True
  | (r, x) :: l, h => (∃ y, hget h r = some y ∧ y.e = x.e ∧ y.k = x.k ∧ leVL y.els x.els ∧ (y.els = x.els ∨ y.els.all (fun p => !isByte p) = true)) ∧ heapCv l h
theorem heapCv_get {g : Heap} : ∀ {l : Heap}, heapCv l g → ∀ r x, hget l r = some x → ∃ y, hget g r = some y ∧ y.e = x.e ∧ y.k = x.k ∧ leVL y.els x.els ∧ (y.els = x.els ∨ y.els.all (fun p => !isByte p) = true)
  | [], _, _, _, h => by simp [hget] at h
  | (s, y) :: l, h, r, x, hx => by
    simp only [hget] at hx
    split at hx
    · rename_i e; subst e; simp only [Option.some.injEq] at hx; subst hx; exact h.1
    · exact heapCv_get h.2 r x hx
def hconv (l : Heap) : Heap → Heap
  | [] => []
  | (r, y) :: g => (r, match hget l r with | some x => { y with els := x.els } | none => y) :: hconv l g
theorem hget_hconv (l : Heap) : ∀ (g : Heap) (r : Nat), hget (hconv l g) r = (hget g r).map fun y => match hget l r with | some x => { y with els := x.els } | none => y
  | [], r => rfl
  | (s, y) :: g, r => by
    simp only [hconv, hget]
    split
    · rename_i e; subst e; rfl
    · exact hget_hconv l g r
theorem Sub.rows (L : Heap) (h : heapCv L σ.heap) : Sub G N σ { σ with heap := hconv L σ.heap } := by
  intro P B a w φ hr
  have hgt : ∀ r y, hget σ.heap r = some y → ∃ x, hget (hconv L σ.heap) r = some x ∧ x.e = y.e ∧ x.k = y.k ∧ x.els.length = y.els.length ∧ leVL y.els x.els ∧ (y.els = x.els ∨ y.els.all (fun p => !isByte p) = true) := fun r y hy => by
    rw [hget_hconv, hy, Option.map_some]
    cases h2 : hget L r with
    | none => exact ⟨y, rfl, rfl, rfl, rfl, leVL_refl _, .inl rfl⟩
    | some x =>
      obtain ⟨y', h3, h4, h5, h6⟩ := heapCv_get h r x h2
      rw [hy] at h3; cases h3
      exact ⟨_, rfl, rfl, rfl, (leVL_get h6.1).1.symm, h6⟩
  have hget' : ∀ r x, hget (hconv L σ.heap) r = some x → ∃ y, hget σ.heap r = some y ∧ y.e = x.e ∧ y.k = x.k ∧ x.els.length = y.els.length ∧ leVL y.els x.els ∧ (y.els = x.els ∨ y.els.all (fun p => !isByte p) = true) := fun r x hx => by
    have hx' := hx
    rw [hget_hconv, Option.map_eq_some_iff] at hx'
    obtain ⟨y, hy, _⟩ := hx'
    obtain ⟨x', h1, h2, h3, h4, h5⟩ := hgt r y hy
    rw [hx] at h1; cases h1
    exact ⟨y, hy, h2.symm, h3.symm, h4, h5⟩
  have hrow : ∀ b, rowB φ (hconv L σ.heap) b ↔ rowB φ σ.heap b := fun b =>
    ⟨fun ⟨r, x, h1, h2⟩ => by obtain ⟨y, h3, _⟩ := hget' r x h1; exact ⟨r, y, h3, h2⟩, fun ⟨r, y, h1, h2⟩ => by obtain ⟨x, h3, _⟩ := hgt r y h1; exact ⟨r, x, h3, h2⟩⟩
  have hown : ∀ b, own φ (hconv L σ.heap) b ↔ own φ σ.heap b := fun b => or_congr (hrow b) Iff.rfl
  have hext : Ext w B.X φ σ.heap w φ (hconv L σ.heap) :=
    ⟨fun r y hy => by obtain ⟨x, h1, h2, h3, h4, _⟩ := hgt r y hy; exact ⟨x, h1, h3, fun _ => h4, rfl⟩, fun b kk hb => ⟨hb.1, hb.2.1, fun ho => hb.2.2 ((hown b).1 ho)⟩, fun b kk hb => ⟨hb.1, fun ho => hb.2 ((hown b).1 ho)⟩, fun _ kk _ => rfl, fun r x b _ _ c e f hh => ⟨c, e, f, hh, rfl⟩⟩
  refine ⟨φ, Rep.of_sit ⟨⟨fun r x b hx hb => ?_, fun r x hx hφ => ?_, fun r s x y b hx hy hb hb' => ?_, fun b hT => ⟨(hr.heap.far b hT).1, (hr.heap.far b hT).2.1, fun ho => (hr.heap.far b hT).2.2 ((hrow b).1 ho)⟩⟩, hr.keeps, fun r x b hx hb => ?_, fun r x hx hp => ?_, fun r x b hx hp hb => ?_, ?_, hr.tnew, ?_⟩ hr.size (fun t => (hr.env t).ext hext) ?_⟩
  · obtain ⟨y, h1, h2, h3, h4, h5⟩ := hget' r x hx
    have hro := (hr.heap.rows r y b h1 hb).ext hext rfl
    exact hro.turn h3.symm h2.symm h4 (fun _ _ h => h) hro.free (fun i hi hi' v hv => hv.le ((leVL_get h5.1).2 i hi hi')) fun z hz => by
      rcases h5.2 with h6 | h6
      · rw [h6] at hz; exact hz
      · have := hz.zero_of fun p hp => by simpa using List.all_eq_true.1 h6 p hp
        subst this; exact .zero _
  · obtain ⟨y, h1, h2, h3, h4, h5⟩ := hget' r x hx
    have := hr.heap.void r y h1 hφ
    rw [this] at h4
    simpa using h4
  · obtain ⟨x', h1, _⟩ := hget' r x hx
    obtain ⟨y', h2, _⟩ := hget' s y hy
    exact hr.heap.inj r s x' y' b h1 h2 hb hb'
  · obtain ⟨y, h1, _⟩ := hget' r x hx
    exact hr.new r y b h1 hb
  · obtain ⟨y, h1, _⟩ := hget' r x hx
    exact hr.pins r y h1 hp
  · obtain ⟨y, h1, _⟩ := hget' r x hx
    exact hr.psz r y b h1 hp hb
  · exact hr.glob.ext hext (fun g y hm => by obtain ⟨_, _, _, _, _, h2, _⟩ := hr.glob g y hm; exact fun ho => h2 ((hown g).1 ho))
  · exact J_step (w := w) (φ := φ) (H := σ.heap) hr.inv rfl rfl rfl rfl (Nat.le_refl _) (fun _ _ _ => rfl) (fun b hb => .inl ((hrow b).1 hb))
  · exact hr.dfr.ext hext
theorem Sub.cvh (h : heapCv τ.heap σ.heap) (h2 : heapLe τ.heap (hconv τ.heap σ.heap)) (h1 : envCv (hconv τ.heap σ.heap) τ.heap σ.env τ.env) (h4 : heapRefs τ.heap τ.heap) (h5 : σ.dfr = τ.dfr ∧ refsInL τ.heap τ.dfr ∧ σ.gh = τ.gh) : Sub G N σ τ :=
  (Sub.rows τ.heap h).trans (Sub.cv h2 h1 h4 h5)
theorem leVL_dl : ∀ {l m : List PD}, leDL l m → leVL (dl l) (dl m)
  | [], [], _ => by simp only [dl, List.map_nil, leVL]
  | x :: l, y :: m, h => by
    simp only [leDL] at h
    simp only [dl_cons, leVL, leV]
    exact ⟨h.1, leVL_dl h.2⟩
  | [], _ :: _, h => by simp [leDL] at h
  | _ :: _, [], h => by simp [leDL] at h
theorem leDL_rep {x y : PD} (h : leD x y) : ∀ n : Nat, leDL (List.replicate n x) (List.replicate n y)
  | 0 => by simp only [List.replicate_zero, leDL]
  | n + 1 => by simp only [List.replicate_succ, leDL]; exact ⟨h, leDL_rep h n⟩
theorem leVL_rep {α : Type} {f : α → PD} {x : PD} {z : α} (h : leD x (f z)) (n : Nat) : leVL (dl (List.replicate n x)) (dl (lenc f (List.replicate n z))) := by
  rw [← lenc_rep]; exact leVL_dl (leDL_rep h n)
theorem rep_noByte {x : PD} (n : Nat) (h : isByte (.d x) = false) : (dl (List.replicate n x)).all (fun p => !isByte p) = true := by
  simp [dl, List.all_replicate, h]
theorem row_refs (H : Heap) (l : List PD) : refsInL H (dl l) := by rw [dl_refs]; trivial
theorem frz_row {α : Type} {r e k n : Nat} {f : α → PD} {L : List α} (h : hget H r = some ⟨e, k, dl (lenc f L)⟩) (hn : n = L.length) : frzT H (.slc r 0 n) = some (.d (.imm k (lenc f L))) := by
  subst hn
  simp only [frzT, frz, h, dl_allD, Option.map_some, List.drop_zero, lenc_take, List.take_length]
theorem rows_ptr {r i off : Nat} (h : hget H' r = none) : ∀ s ∈ rowsOf (.ptr r i off), hget H' s = none := by
  intro s hs
  simp only [rowsOf, List.mem_singleton] at hs
  subst hs; exact h
theorem rows_slc {r lo n : Nat} (h : hget H' r = none) : ∀ s ∈ rowsOf (.slc r lo n), hget H' s = none := by
  intro s hs
  simp only [rowsOf, List.mem_singleton] at hs
  subst hs; exact h
theorem le_nil {α : Type} (k : Nat) (f : α → PD) : leV (.d .nilslice) (.d (.imm k (lenc f []))) := by simp only [leV, leD, lenc_nil]
theorem slcl {r n m : Nat} (h : n = m) : PV.slc r 0 n = .slc r 0 m := by rw [h]
theorem slcle {r n m : Nat} (h : n = m) : leV (PV.slc r 0 n) (.slc r 0 m) := by rw [h]; exact leV_refl _
def lstD (k : Nat) (l : List PD) : PD := match l with
  | [] => .nilslice
  | x :: l => .imm k (x :: l)
theorem lstD_le (k : Nat) (l : List PD) : leD (lstD k l) (.imm k l) := by
  cases l with
  | nil => simp only [lstD, leD]
  | cons x l => exact leD_refl _
end
attribute [go_sem] vcOpL vcStepL litO dvStepL dl_cons dl_nil
end Go.Pv

namespace Go.Pv
def partD (P : Program) (t : TypeId) (xs : List PD) (off : Nat) : Option PD :=
  match elemLoad P t (.d (.agg xs)) off with
  | some (.d x) => some x
  | _ => none
def eqFs (P : Program) (E : TypeId → PD → PD → Option Bool) (xs ys : List PD) : List Field → Option Bool
  | [] => some true
  | f :: fs =>
    if (f.name == "_") = true then eqFs P E xs ys fs
    else match partD P f.type xs f.offset, partD P f.type ys f.offset with
      | some a, some b => match E f.type a b, eqFs P E xs ys fs with
        | some r, some q => some (r && q)
        | _, _ => none
      | _, _ => none
def eqIs (P : Program) (E : TypeId → PD → PD → Option Bool) (e : TypeId) (c : Nat) (xs ys : List PD) : List Nat → Option Bool
  | [] => some true
  | i :: is => match partD P e xs (i * c), partD P e ys (i * c) with
    | some a, some b => match E e a b, eqIs P E e c xs ys is with
      | some r, some q => some (r && q)
      | _, _ => none
    | _, _ => none
def eqD (P : Program) : Nat → TypeId → PD → PD → Option Bool
  | 0, _, _, _ => none
  | d + 1, t, x, y => match tyOf P t with
    | none => none
    | some z => match z.desc with
      | .int _ => match x, y with
        | .int k a, .int k' b => if k = k' then some (a == b) else none
        | _, _ => none
      | .bool => match x, y with
        | .bool a, .bool b => some (a == b)
        | _, _ => none
      | .string => match x, y with
        | .str a, .str b => some (a == b)
        | _, _ => none
      | .struct fs => match x, y with
        | .agg xs, .agg ys => if P.stoodInHeld t = false then eqFs P (eqD P d) xs ys fs.toList else none
        | _, _ => none
      | .array n e => match x, y with
        | .agg xs, .agg ys => match tyOf P e with
          | some q => eqIs P (eqD P d) e q.size xs ys (List.range n)
          | none => none
        | _, _ => none
      | _ => none
theorem eqD_s (P : Program) (d : Nat) (t : TypeId) (x y : PD) : eqD P (d + 1) t x y = match tyOf P t with
    | none => none
    | some z => match z.desc with
      | .int _ => match x, y with
        | .int k a, .int k' b => if k = k' then some (a == b) else none
        | _, _ => none
      | .bool => match x, y with
        | .bool a, .bool b => some (a == b)
        | _, _ => none
      | .string => match x, y with
        | .str a, .str b => some (a == b)
        | _, _ => none
      | .struct fs => match x, y with
        | .agg xs, .agg ys => if P.stoodInHeld t = false then eqFs P (eqD P d) xs ys fs.toList else none
        | _, _ => none
      | .array n e => match x, y with
        | .agg xs, .agg ys => match tyOf P e with
          | some q => eqIs P (eqD P d) e q.size xs ys (List.range n)
          | none => none
        | _, _ => none
      | _ => none := rfl
def eqV (P : Program) (t : TypeId) (p q : PV) : Option Bool :=
  match p, q with
  | .d (.agg a), .d (.agg b) => if P.eqGuardType P.depth t = false then eqD P 8 t (.agg a) (.agg b) else none
  | _, _ => none
def maxO (lo : Bool) : List PV → Option PV
  | [.d (.int k a), .d (.int k' b)] => if k = k' then some (.d (.int k (if lo then min a b else max a b))) else none
  | _ => none
def xOp (P : Program) (σ : St) (op : Op) : Option PV :=
  match op with
  | .binOp .eql t x y _ => (eqV P t (σ.eval x) (σ.eval y)).map fun b => .d (.bool b)
  | .binOp .neq t x y _ => (eqV P t (σ.eval x) (σ.eval y)).map fun b => .d (.bool (!b))
  | .call c => match c.callee with
    | .builtin .max => maxO false (evalL σ c.args.toList)
    | .builtin .min => maxO true (evalL σ c.args.toList)
    | _ => none
  | _ => none
section
variable {P : Program} {G : List (Nat × PD)} {ro : Option Nat} {N : Nat} {σ τ : St} {w w' : World} {X : Nat → Nat → Prop} {φ φ' : Nm} {H H' : Heap} {o : Oper} {K : St → Prop} {ops : Array Oper} {B : Base P} {a a' : Act}
theorem partD_ok {t : TypeId} {xs : List PD} {off : Nat} {x : PD} {vs : Array Value} (h : partD P t xs off = some x) (hv : RepV w X φ H (.agg vs) (.d (.agg xs))) :
    ∃ z, (part t vs off).run P w = .ok z w ∧ RepV w X φ H z (.d x) := by
  unfold partD at h
  split at h <;> simp only [Option.some.injEq, reduceCtorEq] at h
  rename_i y hy; subst h
  obtain ⟨vs', z, h1, h2, h3⟩ := elemLoad_part (P := P) rfl hy hv
  cases h1
  exact ⟨z, h2, h3⟩
theorem eqFs_ok {E : TypeId → PD → PD → Option Bool} {n : Nat} (hE : ∀ t x y r, E t x y = some r → ∀ u v, RepV w X φ H u (.d x) → RepV w X φ H v (.d y) → (Op.equalIn n t u v).run P w = .ok r w) {xs ys : List PD} {us vs : Array Value} (hu : RepV w X φ H (.agg us) (.d (.agg xs))) (hv : RepV w X φ H (.agg vs) (.d (.agg ys))) :
    ∀ {fs : List Field} {r : Bool}, eqFs P E xs ys fs = some r → (Op.eqFields n us vs fs).run P w = .ok r w := by
  intro fs
  induction fs with
  | nil =>
    intro r h
    simp only [eqFs, Option.some.injEq] at h
    subst h; rfl
  | cons f fs ih =>
    intro r h
    simp only [eqFs] at h
    split at h
    · rename_i hn
      have hn : f.name = "_" := by simpa using hn
      simp only [Op.eqFields, hn, ne_eq, not_true_eq_false, if_false]
      exact ih h
    · rename_i hn
      have hn : f.name ≠ "_" := by simpa using hn
      split at h <;> try (simp at h; done)
      rename_i p q hp hq
      split at h <;> simp only [Option.some.injEq, reduceCtorEq] at h
      rename_i r1 r2 h1 h2; subst h
      obtain ⟨u, e1, e2⟩ := partD_ok (P := P) hp hu
      obtain ⟨v, e3, e4⟩ := partD_ok (P := P) hq hv
      have e5 := hE _ _ _ _ h1 _ _ e2 e4
      simp only [Op.eqFields, hn, ne_eq, not_false_eq_true, if_true, Sem.run_bind, e1, e3, e5, Result.andThen_ok]
      cases r1
      · simp
      · simp only [Bool.not_true, Bool.false_eq_true, if_false, Bool.true_and]
        exact ih h2
theorem eqIs_ok {E : TypeId → PD → PD → Option Bool} {n : Nat} (hE : ∀ t x y r, E t x y = some r → ∀ u v, RepV w X φ H u (.d x) → RepV w X φ H v (.d y) → (Op.equalIn n t u v).run P w = .ok r w) {e : TypeId} {c : Nat} {xs ys : List PD} {us vs : Array Value} (hu : RepV w X φ H (.agg us) (.d (.agg xs))) (hv : RepV w X φ H (.agg vs) (.d (.agg ys))) :
    ∀ {is : List Nat} {r : Bool}, eqIs P E e c xs ys is = some r → (Op.eqItems n e c us vs is).run P w = .ok r w := by
  intro is
  induction is with
  | nil =>
    intro r h
    simp only [eqIs, Option.some.injEq] at h
    subst h; simp [Op.eqItems]
  | cons i is ih =>
    intro r h
    simp only [eqIs] at h
    split at h <;> try (simp at h; done)
    rename_i p q hp hq
    split at h <;> simp only [Option.some.injEq, reduceCtorEq] at h
    rename_i r1 r2 h1 h2; subst h
    obtain ⟨u, e1, e2⟩ := partD_ok (P := P) hp hu
    obtain ⟨v, e3, e4⟩ := partD_ok (P := P) hq hv
    have e5 := hE _ _ _ _ h1 _ _ e2 e4
    simp only [Op.eqItems, Sem.run_bind, e1, e3, e5, Result.andThen_ok]
    cases r1
    · simp
    · simp only [Bool.not_true, Bool.false_eq_true, if_false, Bool.true_and]
      exact ih h2
theorem eqD_ok (m : Nat) : ∀ (d : Nat) (t : TypeId) (x y : PD) (r : Bool), eqD P d t x y = some r → ∀ u v, RepV w X φ H u (.d x) → RepV w X φ H v (.d y) → (Op.equalIn (m + d) t u v).run P w = .ok r w := by
  intro d
  induction d with
  | zero => intro t x y r h; simp [eqD] at h
  | succ d ih =>
    intro t x y r h u v hu hv
    unfold eqD at h
    split at h <;> try (simp at h; done)
    rename_i z hz
    have hun := (tyOf_parts hz).1
    rw [show m + (d + 1) = (m + d) + 1 from rfl]
    split at h <;> try (simp at h; done)
    · rename_i k hd
      split at h <;> try (simp at h; done)
      split at h <;> simp only [Option.some.injEq, reduceCtorEq] at h
      rename_i hk; subst hk; subst h
      rw [repV_int hu, repV_int hv]
      exact run_equalIn_int w (m + d) t _ k _ _ (by rw [hun, hd])
    · rename_i hd
      split at h <;> simp only [Option.some.injEq, reduceCtorEq] at h
      subst h
      rw [repV_bool hu, repV_bool hv]
      exact run_equalIn_bool w (m + d) t _ _ (by rw [hun, hd])
    · rename_i hd
      split at h <;> simp only [Option.some.injEq, reduceCtorEq] at h
      subst h
      rw [repV_str hu, repV_str hv, beq_toListBytes]
      exact run_equalIn_string w (m + d) t _ _ (by rw [hun, hd])
    · rename_i fs hd
      split at h <;> try (simp at h; done)
      rename_i xs ys
      split at h <;> try (simp at h; done)
      rename_i hst
      obtain ⟨us, rfl, _⟩ := repD_agg_size (repV_d hu)
      obtain ⟨vs, rfl, _⟩ := repD_agg_size (repV_d hv)
      have hf : P.fieldsOf t = fs := by simp only [Program.fieldsOf, hun, hd]
      rw [run_equalIn_struct w (m + d) t us vs (by rw [hf, hun, hd]) hst, hf]
      exact eqFs_ok ih hu hv h
    · rename_i n e hd
      split at h <;> try (simp at h; done)
      rename_i xs ys
      split at h <;> try (simp at h; done)
      rename_i q hq
      obtain ⟨us, rfl, _⟩ := repD_agg_size (repV_d hu)
      obtain ⟨vs, rfl, _⟩ := repD_agg_size (repV_d hv)
      obtain ⟨i, hi, hs⟩ : ∃ i, P.info? e = some i ∧ i.size = q.size := by obtain ⟨_, i, h1, h2, _⟩ := tyOf_parts hq; exact ⟨i, h1, h2⟩
      rw [run_equalIn_array w (m + d) us vs (by rw [hun, hd]) hi, show P.cellsOf e = q.size by simp [Program.cellsOf, hi, hs]]
      exact eqIs_ok ih hu hv h
theorem eqV_ok {t : TypeId} {p q : PV} {r : Bool} (h : eqV P t p q = some r) {u v : Value} (hu : RepV w X φ H u p) (hv : RepV w X φ H v q) :
    ∃ us vs, u = .agg us ∧ v = .agg vs ∧ P.eqGuardType P.depth t = false ∧ (Op.equalIn 10000 t u v).run P w = .ok r w := by
  unfold eqV at h
  split at h <;> try (simp at h; done)
  split at h <;> try (simp at h; done)
  rename_i hg
  have := eqD_ok 9992 8 _ _ _ _ h _ _ hu hv
  obtain ⟨us, rfl, _⟩ := repD_agg_size (repV_d hu)
  obtain ⟨vs, rfl, _⟩ := repD_agg_size (repV_d hv)
  exact ⟨us, vs, rfl, rfl, hg, this⟩
theorem evalL_args (hr : Rep G B N σ a w φ) {c : Call} {p q : PV} (h : evalL σ c.args.toList = [p, q]) : ∃ x y, c.args = #[x, y] ∧ σ.eval x = p ∧ σ.eval y = q := by
  rcases hc : c.args with ⟨l⟩
  rw [hc] at h
  match l, h with
  | [x, y], h => simp [evalL] at h; exact ⟨x, y, rfl, h.1, h.2⟩
  | [], h => simp [evalL] at h
  | [_], h => simp [evalL] at h
  | _ :: _ :: _ :: _, h => simp [evalL] at h
theorem xOp_ok (hr : Rep G B N σ a w φ) {o : Oper} {v : PV} (h : xOp P σ o.op = some v) (ro : Option Nat) : ∃ u, (o.semAt ro a.eval).run P w = .ok (.value u) w ∧ RepV w B.X φ σ.heap u v := by
  rw [Oper.semAt_eq _ _ _ (fun c hc => by rw [hc] at h; simp [xOp] at h)]
  unfold execOp
  unfold xOp at h
  split at h <;> (try (simp at h; done)) <;> rename_i ho <;> simp only [ho]
  · rename_i t x y t2
    simp only [Option.map_eq_some_iff] at h
    obtain ⟨b, hb, rfl⟩ := h
    obtain ⟨us, vs, hu, hv, hg, he⟩ := eqV_ok (P := P) hb (hr.eval x) (hr.eval y)
    refine ⟨.bool b, run_v ?_, .d (.bool _)⟩
    rw [Sem.run_bind, hu, hv, run_eqGuard_agg w .eql t x y us vs hg]
    rw [hu, hv] at he
    show (binOp .eql t (.agg us) (.agg vs)).run P w = _
    rw [run_eql_struct, he]; rfl
  · rename_i t x y t2
    simp only [Option.map_eq_some_iff] at h
    obtain ⟨b, hb, rfl⟩ := h
    obtain ⟨us, vs, hu, hv, hg, he⟩ := eqV_ok (P := P) hb (hr.eval x) (hr.eval y)
    refine ⟨.bool (!b), run_v ?_, .d (.bool _)⟩
    rw [Sem.run_bind, hu, hv, run_eqGuard_agg w .neq t x y us vs hg]
    rw [hu, hv] at he
    show (binOp .neq t (.agg us) (.agg vs)).run P w = _
    rw [run_neq_struct, he]; rfl
  · rename_i c
    have key : ∀ {lo : Bool} {v : PV}, maxO lo (evalL σ c.args.toList) = some v → ∃ k n m, v = .d (.int k (if lo then min n m else max n m)) ∧ ∃ x y, c.args = #[x, y] ∧ a.eval x = .int k n ∧ a.eval y = .int k m := by
      intro lo v h
      unfold maxO at h
      split at h <;> try (simp at h; done)
      rename_i k n k' m he
      split at h <;> simp only [Option.some.injEq, reduceCtorEq] at h
      rename_i hk; subst hk; subst h
      obtain ⟨x, y, h1, h2, h3⟩ := evalL_args hr he
      have hx := hr.eval x; have hy := hr.eval y
      rw [h2] at hx; rw [h3] at hy
      exact ⟨k, n, m, rfl, x, y, h1, repV_int hx, repV_int hy⟩
    split at h <;> try (simp at h; done)
    · rename_i hc
      obtain ⟨k, n, m, rfl, x, y, h1, h2, h3⟩ := key h
      refine ⟨.int k (max n m), ?_, .d (.int _ _)⟩
      simp only [resolve, hc, h1, Sem.run_bind, Sem.run_pure, Result.andThen, invoke, builtin, List.map_toArray, List.map_cons, List.map_nil, h2, h3, Go.Lib.run_max_ints]
    · rename_i hc
      obtain ⟨k, n, m, rfl, x, y, h1, h2, h3⟩ := key h
      refine ⟨.int k (min n m), ?_, .d (.int _ _)⟩
      simp only [resolve, hc, h1, Sem.run_bind, Sem.run_pure, Result.andThen, invoke, builtin, List.map_toArray, List.map_cons, List.map_nil, h2, h3, Go.Lib.run_min_ints]
theorem OpT.x {v : PV} (h : xOp P σ o.op = some v) (hd : dstOk N o.dst) (hK : K (σ.put o.dst v)) : OpT P G ro N o σ K := by
  intro B hro a w φ hr next Q hn
  obtain ⟨u, h1, h2⟩ := xOp_ok hr h ro
  exact wpIn_value h1 (hn _ _ _ φ hK (hr.put hd h2))
theorem xOp_agree {σ' : St} {op : Op} (h : ∀ x ∈ opnds op, σ'.eval x = σ.eval x) : xOp P σ' op = xOp P σ op := by
  cases op <;> try rfl
  case binOp bop t x y z =>
    simp only [opnds, List.mem_cons, List.not_mem_nil, or_false, forall_eq_or_imp, forall_eq] at h
    cases bop <;> try rfl
    all_goals simp only [xOp, h.1, h.2]
  case call c =>
    simp only [xOp]
    have : evalL σ' c.args.toList = evalL σ c.args.toList := evalL_agree fun x hx => h x (by
      simp only [opnds]
      cases c.callee <;> simp_all)
    rw [this]
theorem OpD.x {xs : Exc} {v : PV} (h : xOp P σ o.op = some v) (hd : dstOk N o.dst) (hx : exE xs (dstEff o.dst v)) :
    OpD P G ro N xs o σ (some (tmpKeys (opnds o.op), dstKeys o.dst)) (σ.put o.dst v) := by
  refine ⟨dstEff o.dst v, fun k hk => by rw [ekeys_dst] at hk; exact hk, hx, fun σ' hd' hs _ => ?_, look_put _ _ _, St.put_rest _ _ _⟩
  have h1 := eval_agree (σ := σ) (σ' := σ') (l := opnds o.op) fun k hk => hs k hk
  exact OpT.x (by rw [xOp_agree h1]; exact h) hd ⟨by rw [St.put_rest]; exact hd', look_put _ _ _⟩
def vcStepX (P : Program) (N : Nat) (o : Oper) (σ : St) (K : St → Prop) : Prop :=
  dstOk N o.dst ∧ match xOp P σ o.op with
    | some v => K (σ.put o.dst v)
    | none => False
def vcOpX (P : Program) (N : Nat) (ds : List (Option Tmp)) (o : Oper) (σ : St) (K : St → Prop) : Prop :=
  match o.guard with
  | none => vcStepX P N o σ K
  | some (j, want) => match gval σ ds j with
    | some b => (b = want → vcStepX P N o σ K) ∧ (b ≠ want → dstOk N o.dst ∧ K (σ.put o.dst (.tuple [])))
    | none => gnone σ ds j = true ∧ dstOk N o.dst ∧ K (σ.put o.dst (.tuple []))
theorem OpT.vcX (h : vcStepX P N o σ K) : OpT P G ro N o σ K := by
  obtain ⟨hd, h⟩ := h
  split at h
  · rename_i v hv; exact OpT.x hv hd h
  · exact h.elim
theorem AOps.consX {rest : List Oper} {Q : St → Prop} (h : ∀ K : St → Prop, (∀ σ, AOps P G ro N ops rest σ Q → K σ) → vcOpX P N (dsts ops) o σ K) : AOps P G ro N ops (o :: rest) σ Q := by
  have h := h _ (fun _ h => h)
  unfold vcOpX at h
  split at h
  · rename_i hg; exact AOps.step hg (OpT.vcX h)
  · rename_i j want hg
    split at h
    · rename_i b hb
      by_cases hbw : b = want
      · exact AOps.guardedU hg hb (fun hb => OpT.vcX (h.1 hb)) (h.1 hbw).1 (fun hb => (h.2 hb).2)
      · exact AOps.guardedU hg hb (fun hb => OpT.vcX (h.1 hb)) (h.2 hbw).1 (fun hb => (h.2 hb).2)
    · exact AOps.skip hg h.1 h.2.1 h.2.2
variable {xs : Exc}
theorem exE_tuple0 (dst : Option Tmp) : exE xs (dstEff dst (.tuple [])) := by
  cases dst with
  | none => trivial
  | some d =>
    refine ⟨?_, trivial⟩
    induction xs with
    | nil => trivial
    | cons x l ih => obtain ⟨r, S⟩ := x; exact ⟨.inr (by simp [Cont.rows, rowsOf, rowsOfL]), ih⟩
theorem DStep.noU {j : Nat} {want b : Bool} (hg : o.guard = some (j, want)) (hb : gval σ (dsts ops) j = some b) (hne : b ≠ want) (hd : dstOk N o.dst) :
    DStep P G ro N xs ops o σ (some (gkeys (dsts ops) o.guard, dstKeys o.dst)) (σ.put o.dst (.tuple [])) := by
  refine ⟨dstEff o.dst (.tuple []), fun k hk => by rw [ekeys_dst] at hk; exact hk, exE_tuple0 _, fun s' hs _ B hro a w hR next Q hn => ?_, look_put _ _ _, St.put_rest _ _ _⟩
  obtain ⟨σ', φ, hd', hl, hr⟩ := hR
  have hgv : gval σ' (dsts ops) j = some b := by
    rw [gval_look (σ := σ) (want := want) fun k hk => by rw [hl]; exact hs k (by rw [hg]; exact hk)]; exact hb
  have hy := gval_ok hr hgv
  have : (some b == some want) = false := by simp [hne]
  simp only [Region.wanted, hg, hy, this, Bool.false_eq_true, if_false]
  exact ⟨fun _ _ => trivial, hn _ _ ⟨σ'.put o.dst (.tuple []), φ, by rw [St.put_rest]; exact hd', by rw [look_put, hl], hr.put hd repV_undef⟩⟩
theorem gnone_look {σ' : St} {ds : List (Option Tmp)} {j : Nat} {want : Bool} (h : ∀ k ∈ gkeys ds (some (j, want)), σ'.look k = σ.look k) : gnone σ' ds j = gnone σ ds j := by
  unfold gnone
  simp only [gkeys] at h
  cases hds : ds[j]? with
  | none => rfl
  | some od =>
    cases od with
    | none => rfl
    | some d =>
      rw [hds] at h
      have := h (.t d) (by simp)
      simp only [St.look, Cont.v.injEq] at this
      simp only [this]
theorem DStep.skipU {j : Nat} {want : Bool} (hg : o.guard = some (j, want)) (hb : gnone σ (dsts ops) j = true) (hd : dstOk N o.dst) :
    DStep P G ro N xs ops o σ (some (gkeys (dsts ops) o.guard, dstKeys o.dst)) (σ.put o.dst (.tuple [])) := by
  refine ⟨dstEff o.dst (.tuple []), fun k hk => by rw [ekeys_dst] at hk; exact hk, exE_tuple0 _, fun s' hs _ B hro a w hR next Q hn => ?_, look_put _ _ _, St.put_rest _ _ _⟩
  obtain ⟨σ', φ, hd', hl, hr⟩ := hR
  have hgv : gnone σ' (dsts ops) j = true := by
    rw [gnone_look (σ := σ) (want := want) fun k hk => by rw [hl]; exact hs k (by rw [hg]; exact hk)]; exact hb
  have hy := gnone_ok hr hgv want
  simp only [Region.wanted, hg, hy, Bool.false_eq_true, if_false]
  exact ⟨fun _ _ => trivial, hn _ _ ⟨σ'.put o.dst (.tuple []), φ, by rw [St.put_rest]; exact hd', by rw [look_put, hl], hr.put hd repV_undef⟩⟩
def dgStep (N : Nat) (ds : List (Option Tmp)) (o : Oper) (σ : St) (S : (Foot → St → Prop) → Prop) (K : Foot → St → Prop) : Prop :=
  match o.guard with
  | none => S K
  | some (j, want) => match gval σ ds j with
    | some b => (b = want → S (fun f σ1 => K (f.plus (gkeys ds o.guard)) σ1)) ∧ (b ≠ want → dstOk N o.dst ∧ K (some (gkeys ds o.guard, dstKeys o.dst)) (σ.put o.dst (.tuple [])))
    | none => gnone σ ds j = true ∧ dstOk N o.dst ∧ K (some (gkeys ds o.guard, dstKeys o.dst)) (σ.put o.dst (.tuple []))
theorem DOps.guard {rest : List Oper} {acc : List Foot} {Q : St → Prop} {S : (Foot → St → Prop) → Prop} (hS : ∀ K, S K → OpX P G ro N xs o σ K)
    (h : ∀ K : Foot → St → Prop, (∀ f σ1, DOps P G ro N xs ops Q rest (acc ++ [f]) σ1 → K f σ1) → dgStep N (dsts ops) o σ S K) :
    DOps P G ro N xs ops Q (o :: rest) acc σ := by
  have h := h (fun f σ1 => DOps P G ro N xs ops Q rest (acc ++ [f]) σ1) (fun _ _ h => h)
  unfold dgStep at h
  split at h
  · rename_i hg
    obtain ⟨f, σ1, h1, h2⟩ := hS _ h
    exact .step (DStep.plain hg h1) h2
  · rename_i j want hg
    split at h
    · rename_i b hb
      by_cases hbw : b = want
      · subst hbw
        obtain ⟨f, σ1, h1, h2⟩ := hS _ (h.1 rfl)
        exact .step (DStep.yes hg hb h1) h2
      · obtain ⟨h1, h2⟩ := h.2 hbw
        exact .step (DStep.noU hg hb hbw h1) h2
    · exact .step (DStep.skipU hg h.1 h.2.1) h.2.2
theorem DOps.consU {rest : List Oper} {acc : List Foot} {Q : St → Prop} (h : ∀ K : Foot → St → Prop, (∀ f σ1, DOps P G ro N xs ops Q rest (acc ++ [f]) σ1 → K f σ1) → dgStep N (dsts ops) o σ (dvStep P G ro N xs o σ) K) :
    DOps P G ro N xs ops Q (o :: rest) acc σ := DOps.guard (fun _ => OpX.vc) h
theorem OpX.vcL {K : Foot → St → Prop} (h : dvStepL P N xs o σ K) : OpX P G ro N xs o σ K := by
  obtain ⟨hd, h⟩ := h
  split at h
  · rename_i v hv; exact ⟨_, _, OpD.lit hv hd h.1, h.2⟩
  · exact h.elim
def dvStepX (P : Program) (N : Nat) (xs : Exc) (o : Oper) (σ : St) (K : Foot → St → Prop) : Prop :=
  dstOk N o.dst ∧ match xOp P σ o.op with
  | some v => exE xs (dstEff o.dst v) ∧ K (some (tmpKeys (opnds o.op), dstKeys o.dst)) (σ.put o.dst v)
  | none => False
theorem OpX.vcX {K : Foot → St → Prop} (h : dvStepX P N xs o σ K) : OpX P G ro N xs o σ K := by
  obtain ⟨hd, h⟩ := h
  split at h
  · rename_i v hv; exact ⟨_, _, OpD.x hv hd h.1, h.2⟩
  · exact h.elim
theorem DOps.consLU {rest : List Oper} {acc : List Foot} {Q : St → Prop} (h : ∀ K : Foot → St → Prop, (∀ f σ1, DOps P G ro N xs ops Q rest (acc ++ [f]) σ1 → K f σ1) → dgStep N (dsts ops) o σ (dvStepL P N xs o σ) K) :
    DOps P G ro N xs ops Q (o :: rest) acc σ := DOps.guard (fun _ => OpX.vcL) h
theorem DOps.consX {rest : List Oper} {acc : List Foot} {Q : St → Prop} (h : ∀ K : Foot → St → Prop, (∀ f σ1, DOps P G ro N xs ops Q rest (acc ++ [f]) σ1 → K f σ1) → dgStep N (dsts ops) o σ (dvStepX P N xs o σ) K) :
    DOps P G ro N xs ops Q (o :: rest) acc σ := DOps.guard (fun _ => OpX.vcX) h
theorem DOps.consC {rest : List Oper} {acc : List Foot} {Q : St → Prop} (h : ∀ K : Foot → St → Prop, (∀ f σ1, DOps P G ro N xs ops Q rest (acc ++ [f]) σ1 → K f σ1) → dgStep N (dsts ops) o σ (OpX P G ro N xs o σ) K) :
    DOps P G ro N xs ops Q (o :: rest) acc σ := DOps.guard (fun _ h => h) h
def vcOpC (P : Program) (G : List (Nat × PD)) (ro : Option Nat) (N : Nat) (ds : List (Option Tmp)) (o : Oper) (σ : St) (K : St → Prop) : Prop :=
  match o.guard with
  | none => OpT P G ro N o σ K
  | some (j, want) => match gval σ ds j with
    | some b => (b = want → OpT P G ro N o σ K) ∧ (b ≠ want → dstOk N o.dst ∧ K (σ.put o.dst (.tuple [])))
    | none => gnone σ ds j = true ∧ dstOk N o.dst ∧ K (σ.put o.dst (.tuple []))
theorem AOps.consC {rest : List Oper} {Q : St → Prop} (hd : dstOk N o.dst) (h : ∀ K : St → Prop, (∀ σ, AOps P G ro N ops rest σ Q → K σ) → vcOpC P G ro N (dsts ops) o σ K) : AOps P G ro N ops (o :: rest) σ Q := by
  have h := h _ (fun _ h => h)
  unfold vcOpC at h
  split at h
  · rename_i hg; exact AOps.step hg h
  · rename_i j want hg
    split at h
    · rename_i b hb
      exact AOps.guardedU hg hb h.1 hd (fun hb => (h.2 hb).2)
    · exact AOps.skip hg h.1 h.2.1 h.2.2
theorem OpT.callV {c : Call} {xo : Operand} {f : FuncId} {args : List PV} {res : PV} {K : St → Prop} (ho : o.op = .call c) (hc : c.callee = .value xo) (hx : calleeV (σ.eval xo) = some (f, [])) (hcal : callable P f = true)
    (hf : PureFn P G f args res) (ha : argsOk σ.heap (evalL σ c.args.toList) args) (hd : dstOk N o.dst) (hK : K (σ.put o.dst res)) (hres : dOnly res) (hcl : clean res) (hrf : refsIn [] res) (hren : res.ren id = res) : OpT P G ro N o σ K := by
  refine OpT.callG (g := id) (gc := none) ho hc hx hcal hf (hand_nil σ) (.inl rfl) (handsOk_of_args (by simpa using ha)) hd ?_
  rintro p H' g' ⟨rfl, rfl⟩
  refine ⟨id, ⟨fun r x' h => by simp [hget] at h, fun r x h => by simp [hget] at h, fun r x' h => by simp [hget] at h, fun r s x y h => by simp [hget] at h, fun r x h => by simp [hget] at h⟩, hcl, hrf, ?_⟩
  rw [hren]
  exact hK
end
attribute [go_sem] xOp eqV eqD_s eqFs eqIs partD maxO vcStepX vcOpX dgStep dvStepX vcOpC dvStep calleeV
end Go.Pv

namespace Go.Pv
def rangeM {α S X : Type} (f : S → α → Option (S ⊕ X)) : S → List α → Option (S ⊕ X)
  | s, [] => some (.inl s)
  | s, a :: l => (f s a).bind fun o => match o with
    | .inl s' => rangeM f s' l
    | .inr x => some (.inr x)
theorem rangeM_snoc {α S X : Type} {f : S → α → Option (S ⊕ X)} : ∀ {l : List α} {s s' : S} {a : α} , rangeM f s l = some (.inl s') → rangeM f s (l ++ [a]) = f s' a
  | [], s, s', a, h => by
    simp only [rangeM, Option.some.injEq, Sum.inl.injEq] at h
    subst h
    simp only [List.nil_append, rangeM]
    cases f s a with
    | none => rfl
    | some o => cases o <;> rfl
  | b :: l, s, s', a, h => by
    simp only [rangeM] at h
    obtain ⟨o, h1, h2⟩ := bind_some h
    simp only [List.cons_append, rangeM, h1, Option.bind_some]
    cases o with
    | inl s1 => exact rangeM_snoc h2
    | inr x => simp at h2
theorem rangeM_pre {α S X : Type} {f : S → α → Option (S ⊕ X)} : ∀ {l m : List α} {s : S} {o : S ⊕ X}, rangeM f s (l ++ m) = some o → (∃ s', rangeM f s l = some (.inl s') ∧ rangeM f s' m = some o) ∨ ∃ x, rangeM f s l = some (.inr x) ∧ o = .inr x
  | [], m, s, o, h => .inl ⟨s, rfl, h⟩
  | a :: l, m, s, o, h => by
    simp only [List.cons_append, rangeM] at h
    obtain ⟨q, h1, h2⟩ := bind_some h
    cases q with
    | inl s1 =>
      rcases rangeM_pre h2 with ⟨s', h3, h4⟩ | ⟨x, h3, h4⟩
      · exact .inl ⟨s', by simp only [rangeM, h1, Option.bind_some]; exact h3, h4⟩
      · exact .inr ⟨x, by simp only [rangeM, h1, Option.bind_some]; exact h3, h4⟩
    | inr x => exact .inr ⟨x, by simp only [rangeM, h1, Option.bind_some], by simpa using h2.symm⟩
def QL {α S X : Type} (G : List (Nat × PD)) (N : Nat) (e : List (Nat × PV)) (T : S → Heap) (k : Nat) (Tx : X → Heap) (o : Option (S ⊕ X)) : Post
  | .normal, τ => ∃ s', o = some (.inl s') ∧ Sub G N τ ⟨[], T s', [.func (.func 0) (envL e)], none⟩
  | .exit id, τ => id = k ∧ ∃ y, o = some (.inr y) ∧ Sub G N τ ⟨[], Tx y, [.func (.func 0) (envL e)], none⟩
  | _, _ => False
section
variable {P : Program} {G : List (Nat × PD)} {N : Nat} {σ : St}
theorem AWp.rangeL {α S X : Type} {Q : Post} {gx : Operand} {t : Tmp} {assign body : Code} {gf : FuncId} {caps : List PV} (enc : α → PD) (L : List α) (T : S → Heap) (k : Nat) (Tx : X → Heap) (f : S → α → Option (S ⊕ X)) (s0 : S) {o : S ⊕ X}
    (hgv : calleeV (σ.eval gx) = some (gf, caps)) (hcap : dOnlyL caps) (hcal : callable P gf = true) (hseq : SeqFn P G gf caps (lenc enc L)) (hgh : σ.gh = none) (hdf : σ.dfr = []) (h0 : T s0 = σ.heap) (ht : t < N)
    (hce : cleanEnv σ.env) (hci : ∀ s, cleanHeap (T s)) (hcx : ∀ y, cleanHeap (Tx y)) (h : rangeM f s0 L = some o)
    (hbody : ∀ l s x q, f s x = some q → AWp P G (some l) N assign ⟨eput σ.env t (.d (enc x)), T s, [.func (.func 0) (envL σ.env)], none⟩ (Post.then (fun τ1 => AWp P G (some l) N body τ1 (@QL α S X G N σ.env T k Tx (f s x))) (fun _ _ => False)))
    (hnorm : ∀ s, o = .inl s → Q .normal ⟨σ.env, T s, [], none⟩) (hexit : ∀ y, o = .inr y → Q (.exit k) ⟨σ.env, Tx y, [], none⟩) :
    AWp P G none N (.rangeFunc gx #[t] assign body) σ Q := by
  classical
  obtain ⟨sAt, hsAt⟩ : ∃ sAt : List PD → S, ∀ pre, sAt pre = match rangeM f s0 (L.take pre.length) with | some (.inl s) => s | _ => s0 := ⟨fun pre => _, fun _ => rfl⟩
  by_cases hX : Nonempty X
  case neg =>
    have hall : ∀ (s : S) (x : α) (q : S ⊕ X), f s x = some q → ∃ s', q = .inl s' := fun s x q _ => by
      cases q with
      | inl s' => exact ⟨s', rfl⟩
      | inr y => exact absurd ⟨y⟩ hX
    refine AWp.rangeFunc (ys := lenc enc L) (fun pre => T (sAt pre)) (fun pre => ∃ m, pre = lenc enc m ∧ (∃ r, L = m ++ r) ∧ ∃ s, rangeM f s0 m = some (.inl s)) (fun _ _ => []) (fun _ _ => False) hgv hcap hcal hseq hgh hdf ?_ ⟨[], rfl, ⟨L, rfl⟩, s0, rfl⟩ ht hce (fun _ => hci _) (fun _ _ => trivial) ?_ ?_ (fun _ _ _ _ h => h.elim)
    · show T (sAt []) = _
      rw [hsAt]; exact h0
    · rintro l pre x rest hys ⟨m, rfl, ⟨r, hr⟩, s, hs⟩
      have hr2 : lenc enc L = lenc enc m ++ lenc enc r := by rw [hr]; simp [lenc]
      rw [hr2] at hys
      have hr3 : lenc enc r = x :: rest := List.append_cancel_left hys
      cases r with
      | nil => cases hr3
      | cons a r =>
        simp only [lenc_cons, List.cons.injEq] at hr3
        obtain ⟨rfl, _⟩ := hr3
        have hTs : sAt (lenc enc m) = s := by rw [hsAt, lenc_length, hr, List.take_left', hs]; rfl
        have hq : ∃ q, f s a = some q := by
          rw [hr] at h
          rcases rangeM_pre h with ⟨s', h3, h4⟩ | ⟨x, h3, _⟩
          · rw [hs] at h3; cases h3
            simp only [rangeM] at h4
            obtain ⟨q, h5, _⟩ := bind_some h4
            exact ⟨q, h5⟩
          · rw [hs] at h3; cases h3
        obtain ⟨q, hq⟩ := hq
        simp only [hTs]
        refine (hbody l s a q hq).mono fun e τ he => ?_
        cases e with
        | normal =>
          refine AWp.mono he fun e τ' he' => ?_
          cases e with
          | normal =>
            obtain ⟨s', h5, h6⟩ := he'
            have hsn := rangeM_snoc (a := a) hs
            rw [h5] at hsn
            refine ⟨⟨m ++ [a], by simp [lenc], ⟨r, by rw [hr]; simp⟩, s', hsn⟩, ?_⟩
            have e2 : sAt (lenc enc m ++ [enc a]) = s' := by
              rw [hsAt]
              have : (lenc enc m ++ [enc a]).length = (m ++ [a]).length := by simp [lenc]
              rw [this, hr, show m ++ a :: r = (m ++ [a]) ++ r by simp, List.take_left', hsn]; rfl
            show Sub G N τ' ⟨[], T (sAt (lenc enc m ++ [enc a])), _, _⟩
            rw [e2]; exact h6
          | exit id => obtain ⟨_, y, _⟩ := he'; exact absurd ⟨y⟩ hX
          | _ => exact he'.elim
        | _ => exact he.elim
    · rintro ⟨m, hm, ⟨r, hr⟩, s, hs⟩
      have hlen : m.length = L.length := by simpa [lenc] using (congrArg List.length hm).symm
      have : r = [] := by
        have := congrArg List.length hr
        simp only [List.length_append] at this
        exact List.eq_nil_of_length_eq_zero (by omega)
      subst this
      rw [List.append_nil] at hr
      subst hr
      have e2 : sAt (lenc enc L) = s := by rw [hsAt, lenc_length, List.take_length, hs]
      show Q .normal ⟨_, T (sAt (lenc enc _)), _, _⟩
      rw [e2]
      exact hnorm s (by rw [hs] at h; exact (Option.some.inj h).symm)
  case pos =>
    obtain ⟨y0⟩ := hX
    obtain ⟨yAt, hyAt⟩ : ∃ yAt : List PD → X, ∀ pre, yAt pre = match rangeM f s0 (L.take pre.length) with | some (.inr y) => y | _ => y0 := ⟨fun pre => _, fun _ => rfl⟩
    refine AWp.rangeFunc (ys := lenc enc L) (fun pre => T (sAt pre)) (fun pre => ∃ m, pre = lenc enc m ∧ (∃ r, L = m ++ r) ∧ ∃ s, rangeM f s0 m = some (.inl s)) (fun _ pre => Tx (yAt pre)) (fun id pre => id = k ∧ ∃ m, pre = lenc enc m ∧ (∃ r, L = m ++ r) ∧ ∃ y, rangeM f s0 m = some (.inr y)) hgv hcap hcal hseq hgh hdf ?_ ⟨[], rfl, ⟨L, rfl⟩, s0, rfl⟩ ht hce (fun _ => hci _) (fun _ _ => hcx _) ?_ ?_ ?_
    · show T (sAt []) = _
      rw [hsAt]; exact h0
    · rintro l pre x rest hys ⟨m, rfl, ⟨r, hr⟩, s, hs⟩
      have hr2 : lenc enc L = lenc enc m ++ lenc enc r := by rw [hr]; simp [lenc]
      rw [hr2] at hys
      have hr3 : lenc enc r = x :: rest := List.append_cancel_left hys
      cases r with
      | nil => cases hr3
      | cons a r =>
        simp only [lenc_cons, List.cons.injEq] at hr3
        obtain ⟨rfl, _⟩ := hr3
        have hTs : sAt (lenc enc m) = s := by rw [hsAt, lenc_length, hr, List.take_left', hs]; rfl
        have hq : ∃ q, f s a = some q := by
          rw [hr] at h
          rcases rangeM_pre h with ⟨s', h3, h4⟩ | ⟨x, h3, _⟩
          · rw [hs] at h3; cases h3
            simp only [rangeM] at h4
            obtain ⟨q, h5, _⟩ := bind_some h4
            exact ⟨q, h5⟩
          · rw [hs] at h3; cases h3
        obtain ⟨q, hq⟩ := hq
        simp only [hTs]
        have hsn := rangeM_snoc (a := a) hs
        have hlen : (lenc enc m ++ [enc a]).length = (m ++ [a]).length := by simp [lenc]
        have htk : L.take (m ++ [a]).length = m ++ [a] := by
          rw [hr, show m ++ a :: r = (m ++ [a]) ++ r by simp, List.take_left']; rfl
        refine (hbody l s a q hq).mono fun e τ he => ?_
        cases e with
        | normal =>
          refine AWp.mono he fun e τ' he' => ?_
          cases e with
          | normal =>
            obtain ⟨s', h5, h6⟩ := he'
            rw [h5] at hsn
            refine ⟨⟨m ++ [a], by simp [lenc], ⟨r, by rw [hr]; simp⟩, s', hsn⟩, ?_⟩
            have e2 : sAt (lenc enc m ++ [enc a]) = s' := by rw [hsAt, hlen, htk, hsn]
            show Sub G N τ' ⟨[], T (sAt (lenc enc m ++ [enc a])), _, _⟩
            rw [e2]; exact h6
          | exit id =>
            obtain ⟨rfl, y, h5, h6⟩ := he'
            rw [h5] at hsn
            refine ⟨⟨rfl, m ++ [a], by simp [lenc], ⟨r, by rw [hr]; simp⟩, y, hsn⟩, ?_⟩
            have e2 : yAt (lenc enc m ++ [enc a]) = y := by rw [hyAt, hlen, htk, hsn]
            show Sub G N τ' ⟨[], Tx (yAt (lenc enc m ++ [enc a])), _, _⟩
            rw [e2]; exact h6
          | _ => exact he'.elim
        | _ => exact he.elim
    · rintro ⟨m, hm, ⟨r, hr⟩, s, hs⟩
      have hlen : m.length = L.length := by simpa [lenc] using (congrArg List.length hm).symm
      have : r = [] := by
        have := congrArg List.length hr
        simp only [List.length_append] at this
        exact List.eq_nil_of_length_eq_zero (by omega)
      subst this
      rw [List.append_nil] at hr
      subst hr
      have e2 : sAt (lenc enc L) = s := by rw [hsAt, lenc_length, List.take_length, hs]
      show Q .normal ⟨_, T (sAt (lenc enc _)), _, _⟩
      rw [e2]
      exact hnorm s (by rw [hs] at h; exact (Option.some.inj h).symm)
    · rintro id part rest hys ⟨rfl, m, rfl, ⟨r, hr⟩, y, hy⟩
      have e2 : yAt (lenc enc m) = y := by rw [hyAt, lenc_length, hr, List.take_left', hy]; rfl
      show Q (.exit _) ⟨_, Tx (yAt (lenc enc m)), _, _⟩
      rw [e2]
      refine hexit y ?_
      rw [hr] at h
      rcases rangeM_pre h with ⟨s', h3, _⟩ | ⟨x, h3, h4⟩
      · rw [hy] at h3; cases h3
      · rw [hy] at h3; cases h3; exact h4
end
attribute [go_sem] cleanEnv cleanHeap
@[go_sem high] theorem lenV_lst {α : Type} (e : TypeId) (k : Nat) (f : α → PD) (l : List α) : lenV (.slice e) (.d (lstD k (lenc f l))) = some (l.length : Int) := by
  cases l with
  | nil => rfl
  | cons x l => simp [lstD, lenc, lenV]
@[go_sem high] theorem nilEq_lst {α : Type} (e : TypeId) (k : Nat) (f : α → PD) (l : List α) : nilEq (.slice e) (.d (lstD k (lenc f l))) (.d .nilslice) = some l.isEmpty := by
  cases l with
  | nil => rfl
  | cons x l => simp [lstD, lenc, nilEq, guardO]
@[go_sem high] theorem binV_lst {α : Type} (P : Program) (t : TypeId) (k : Nat) (f : α → PD) (l : List α) : binV P .eql t (.d (lstD k (lenc f l))) (.d .nilslice) = (tyOf P t).bind fun z => (nilEq z.desc (.d (lstD k (lenc f l))) (.d .nilslice)).map fun r => .d (.bool r) := by
  cases l <;> rfl
@[go_sem high] theorem binV_lst' {α : Type} (P : Program) (t : TypeId) (k : Nat) (f : α → PD) (l : List α) : binV P .neq t (.d (lstD k (lenc f l))) (.d .nilslice) = (tyOf P t).bind fun z => (nilEq z.desc (.d (lstD k (lenc f l))) (.d .nilslice)).map fun r => .d (.bool (!r)) := by
  cases l <;> rfl
@[go_sem] theorem isByte_lst (k : Nat) (l : List PD) : isByte.match_1 (motive := fun _ => Bool) (.d (lstD k l)) (fun _ => true) (fun _ => false) = false := by cases l <;> rfl
@[go_sem high] theorem pvCells_lst {α : Type} (k : Nat) (f : α → PD) (l : List α) : pvCells (.d (lstD k (lenc f l))) = some [.d (lstD k (lenc f l))] := by
  cases l <;> rfl
@[go_sem high] theorem elemLoad_lst {α : Type} (P : Program) (t : TypeId) (k : Nat) (f : α → PD) (l : List α) (off : Nat) : elemLoad P t (.d (lstD k (lenc f l))) off = match tyOf P t with
    | none => none
    | some y => if isAggD y.desc = true then none else if off = 0 then some (.d (lstD k (lenc f l))) else none := by
  unfold elemLoad
  cases tyOf P t with
  | none => rfl
  | some y => cases l <;> rfl
theorem FnG.less {P : Program} {G : List (Nat × PD)} {f : FuncId} {args : List PV} {H : Heap} {g : Gh} {R R2 : PV → Heap → Gh → Prop} (h : FnG P G f args H g R)
    (hl : ∀ p H' g', R p H' g' → ∃ H2, heapLe H2 H' ∧ heapRefs H2 H2 ∧ refsIn H2 p ∧ R2 p H2 g') : FnG P G f args H g R2 := by
  intro B φ vs h0 h1 h2 h3
  refine (h B φ vs h0 h1 h2 h3).mono ?_
  rintro e w' ⟨v, p, H', g', φ', he, hR, hv, hs⟩
  obtain ⟨H2, h4, h5, h6, h7⟩ := hl p H' g' hR
  exact ⟨v, p, H2, g', φ', he, h7, hv.less (heapLe_get h4) h6, hs.less (heapLe_get h4) (heapRefs_get h5)⟩
end Go.Pv

namespace Go.Pv
open Go Go.ChangeShapes Go.WideShapes Go.ChangeAt Go.RowKit
def Base.top (P : Program) (W : World) : Base P where
  w0 := W
  X := fun _ _ => False
  hX := fun _ _ h => h.elim
  o0 := fun _ => False
  φ0 := fun _ => none
  z0 := fun _ => 0
  ro := none
  held := []
  hheld := fun _ => rfl
  J := fun _ _ _ _ => True
  stab := fun _ _ _ _ _ _ _ _ _ _ _ _ _ => trivial
  y := none
  yok := fun _ _ h => by cases h
def inW (w : World) (b _k : Nat) : Prop := b < w.heap.size
theorem okd_top {w : World} {b k : Nat} (h : inW w b k) : okd w (fun _ _ => False) Nm.no [] b k :=
  ⟨h, fun h => h, fun h => h.elim (fun ⟨_, _, h, _⟩ => by cases h) fun h => h⟩
def GlobTop (G : List (Nat × PD)) (w : World) : Prop :=
  ∀ g x, (g, x) ∈ G → ∃ c e f v, w.heap[g]? = some (.cells c e f) ∧ RepD w (inW w) v x ∧ v.cells.size = c.size ∧ ∀ j, j < v.cells.size → c[j]? = some (v.cells.getD j undef) ∧ flat (v.cells.getD j undef) = true
theorem own_top (b : Nat) : ¬ own Nm.no [] b := fun h => h.elim (fun ⟨_, _, h, _⟩ => by cases h) fun h => h
theorem calls_of_pure {P : Program} {G : List (Nat × PD)} {f : FuncId} {args : List PD} {b : Bool} (h : PureFn P G f (args.map .d) (.d (.bool b))) {W : World} {vs : List Value} (hl : vs.length = args.length)
    (hv : ∀ i (hi : i < args.length), RepD W (inW W) (vs.getD i undef) args[i]) (hG : GlobTop G W) :
    Calls P f vs.toArray W fun e W' => e = .returned (.bool b) ∧ Keeps (fun _ => False) W W' := by
  have key := h (Base.top P W) Nm.no vs rfl (by simpa using hl) (fun i hi => by
    have hi' : i < args.length := by simpa using hi
    have e : (args.map PV.d)[i] = .d args[i] := by simp
    rw [e]
    exact .d ((hv i hi').mono' (fun _ _ h => okd_top h) fun _ _ _ _ _ _ h => h)) ⟨⟨fun r x b h => by simp [hget] at h, fun r x h => by simp [hget] at h, fun r s x y b h => by simp [hget] at h, fun b h => h.elim⟩, Keeps.refl _ _,
      fun r x b h => by simp [hget] at h, fun r x h => by simp [hget] at h, fun r x b h => by simp [hget] at h, fun g x hx => by
        obtain ⟨c, e, f, v, h1, h2, h3, h4⟩ := hG g x hx
        exact ⟨c, e, f, v, h1, own_top g, h2.mono' (fun _ _ h => okd_top h) fun _ _ _ _ _ _ h => h, h3, h4, fun h => h⟩, fun b h => h.elim, fun b h => h⟩
  refine callsIn_wide.1 (CallsIn.mono key ?_)
  rintro e w' ⟨v, p, H', g', φ', rfl, ⟨rfl, rfl⟩, hr, hs⟩
  cases hr with
  | d hd => cases hd; exact ⟨rfl, hs.keeps⟩
section
variable {H : Type} {enc : TypeId × Value → H} {P : Program} {w : World} {sp : Nat → Bool} {held : Bool}
def Opens (P : Program) (w : World) {α : Type} (t : TypeId) (k : Nat) (f : α → PD) : Prop :=
  P.cellsOf t = k ∧ ∀ {H : Type} (enc : TypeId × Value → H) (sp : Nat → Bool) (held : Bool) (n : Nat) (cs : List Value) (x : DataW H × List MemPlace), DataW.trod enc P w 0 sp held n t cs = some x → w.noneFrozen x.2 →
    ∃ (v : Value) (a : α), v.cells.toList = cs ∧ RepD w (inW w) v (f a) ∧ v.cells.size = k ∧ ∀ j, j < k → flat (v.cells.getD j undef) = true
theorem rep_slice {α : Type} [Inhabited α] {t e : TypeId} {k n : Nat} {f : α → PD} {v : Value} {x : DataW H × List MemPlace} (ht : P.underlying t = some (.slice e)) (he : Opens P w e k f) (hk : 0 < k) (h : DataW.trod enc P w 0 sp held n t [v] = some x) (hnf : w.noneFrozen x.2) : ∃ l : List α, RepD w (inW w) v (.imm k (lenc f l)) := by
  rcases Go.Deep.open_slice ht h with ⟨h1, _⟩ | ⟨a, len, cap, m, n', D, Pl, h1, _, hl, _, hm, hxe, hx⟩
  · simp only [List.cons.injEq, and_true] at h1
    subst h1
    exact ⟨[], .imm0 k⟩
  · simp only [List.cons.injEq, and_true] at h1
    subst h1
    have hlm : len ≤ m := by rw [hm]; split <;> omega
    rw [he.1] at hx
    have h2 : ∀ i, i < len → ∃ y : Value × α, (y.1.cells.toList.length = k ∧ w.cells? 0 (a.add (i * k)) k = some y.1.cells.toList) ∧ RepD w (inW w) y.1 (f y.2) ∧ y.1.cells.size = k ∧ ∀ j, j < k → flat (y.1.cells.getD j undef) = true := fun i hi => by
      obtain ⟨cs', h3, h4⟩ := hx i (by omega)
      obtain ⟨v, b, h5, h6, h7, h8⟩ := he.2 enc sp held n' cs' _ h4 (fun b o hm => hnf b o (by rw [hxe]; exact List.mem_append_right _ (List.mem_flatMap.2 ⟨i, List.mem_range.2 (by omega), hm⟩)))
      exact ⟨(v, b), ⟨by simp [h7], by rw [h5]; exact h3⟩, h6, h7, h8⟩
    have hsp : 0 < len → a.spot = none := fun hpos => by
      obtain ⟨y, ⟨h3, h4⟩, _⟩ := h2 0 hpos
      simp only [World.cells?, Nat.zero_le, if_true] at h4
      have := mapM_some_get h4 0 0 (by simp [hk])
      rw [Nat.zero_mul] at this
      have e : (a.add 0).add 0 = a := by simp [Addr.add]
      rw [e, List.getElem?_eq_getElem (by rw [h3]; exact hk)] at this
      unfold World.cell? at this
      split at this
      · split at this
        · cases this
        · rename_i hn
          cases hs : a.spot with
          | none => rfl
          | some s => rw [hs] at hn; exact absurd rfl hn
      · cases this
    have : Inhabited (Value × α) := ⟨(undef, default)⟩
    obtain ⟨Y, hY⟩ := Go.Deep.choose_lt h2
    have hcell : ∀ i, i < len → ∀ j, j < k → w.cell? ⟨a.block, a.off + i * k + j, none⟩ = some ((Y i).1.cells.getD j undef) := fun i hi j hj => by
      obtain ⟨⟨h3, h4⟩, h5, h6, _⟩ := hY i hi
      simp only [World.cells?, Nat.zero_le, if_true] at h4
      have := mapM_some_get h4 j j (by simp [hj])
      rw [Go.Deep.add_add] at this
      have e1 : a.add (i * k + j) = ⟨a.block, a.off + i * k + j, none⟩ := by
        have hsp := hsp (by omega)
        obtain ⟨b, o, s⟩ := a
        dsimp only at hsp
        subst hsp
        simp only [Addr.add]
        split
        · rename_i h0
          have e2 : o + i * k + j = o := by omega
          rw [e2]
        · rw [Nat.add_assoc]
      rw [e1] at this
      rw [this, List.getElem?_eq_getElem (by rw [h3]; exact hj)]
      simp [Array.getD, h6, hj]
    have hpos : lenc f ((List.range len).map fun i => (Y i).2) ≠ [] → 0 < len := fun hne => by
      rcases Nat.eq_zero_or_pos len with h | h
      · subst h; simp [lenc] at hne
      · exact h
    refine ⟨(List.range len).map fun i => (Y i).2, .imm (fun i => (Y i).1) (fun hne => hsp (hpos hne)) (fun hne => ?_) (by simp [lenc]) hl (fun i hi => ?_) (fun i hi => ?_) (fun i hi => ?_) (fun i hi => ?_) (fun i hi j hj _ => hnf _ _ ?_)⟩
    rotate_right
    · have hi' : i < len := by simpa [lenc] using hi
      rw [hxe]
      refine List.mem_append_left _ (List.mem_map.2 ⟨i * k + j, List.mem_range.2 ?_, by rw [Nat.add_assoc]⟩)
      rw [he.1]
      have h1 : (i + 1) * k ≤ m * k := Nat.mul_le_mul_right _ (by omega)
      rw [Nat.add_mul, Nat.one_mul] at h1
      omega
    · have hlen : 0 < len := by
        rcases Nat.eq_zero_or_pos len with h | h
        · subst h; simp [lenc] at hne
        · exact h
      exact World.block_lt_of_cell? w ⟨a.block, a.off + 0 * k + 0, none⟩ (hcell 0 hlen 0 hk)
    · have hi' : i < len := by simpa [lenc] using hi
      have := (hY i hi').2.1
      simpa [lenc] using this
    · exact (hY i (by simpa [lenc] using hi)).2.2.1
    · exact (hY i (by simpa [lenc] using hi)).2.2.2
    · exact hcell i (by simpa [lenc] using hi)
theorem rep_arg_slice {α : Type} [Inhabited α] {r : Reach} {b0 : Nat} {t e : TypeId} {k : Nat} {f : α → PD} {v : Value} {d : DataW H} {p : List MemPlace} (ht : P.underlying t = some (.slice e)) (he : Opens P w e k f) (hk : 0 < k)
    (hval : Value.okWide P w r b0 t v) (h : DataW.Trod enc P w 0 sp held t v d p) (hnf : w.noneFrozen p) : ∃ l : List α, RepD w (inW w) v (.imm k (lenc f l)) := by
  obtain ⟨a0, len, cap, rfl⟩ := okWide_slice ht hval
  obtain ⟨n, hn⟩ := h
  simp only [Value.cells] at hn
  exact rep_slice ht he hk hn hnf
theorem rep_arg_int {r : Reach} {b0 : Nat} {t : TypeId} {k : IntKind} {v : Value} (ht : P.underlying t = some (.int k)) (hval : Value.okWide P w r b0 t v) : ∃ n, RepD w (inW w) v (.int k n) := by
  obtain ⟨n, rfl⟩ := okWide_int ht hval
  exact ⟨n, .int k n⟩
theorem Keeps.since {w' : World} (h : Keeps (fun _ => False) w w') : w.Since w.heap.size w' :=
  ⟨h.os, h.tape, h.output, h.size, fun k hk => h.block k hk fun h => h⟩
theorem trodAll_stays {w' : World} {sp' : Nat → Bool} (hl : laidOutB P = true) : ∀ {ts : List TypeId} {vs : List Value} {ds : List (DataW H)} {ps : List MemPlace}, (ts.all fun t => P.readableRec t && decide (t < P.types.size)) = true →
    DataW.TrodAll enc P w 0 (fun _ => true) true ts vs ds ps → (∀ p ∈ ps, w.sameAt w' p) → (∀ p ∈ ps, sp' p.block = true) → DataW.TrodAll enc P w' 0 sp' true ts vs ds ps
  | [], [], [], _, _, h, _, _ => h
  | [], [], _ :: _, _, _, h, _, _ => h.elim
  | [], _ :: _, _, _, _, h, _, _ => h.elim
  | _ :: _, [], _, _, _, h, _, _ => h.elim
  | _ :: _, _ :: _, [], _, _, h, _, _ => h.elim
  | t :: ts, v :: vs, d :: ds, _, ht, ⟨p, q, h1, h2, e⟩, hs, hp => by
    subst e
    rw [List.all_cons, Bool.and_eq_true, Bool.and_eq_true, decide_eq_true_eq] at ht
    exact ⟨p, q, WideElems.Trod_stays hl ht.1.1 ht.1.2 h1 (fun x hx => hs x (List.mem_append_left _ hx)) (fun x hx => hp x (List.mem_append_left _ hx)),
      trodAll_stays hl ht.2 h2 (fun x hx => hs x (List.mem_append_right _ hx)) (fun x hx => hp x (List.mem_append_right _ hx)), rfl⟩
theorem law_post {f : Func} {s : ChangeSpec} {apart fresh handsOn : Bool} {W W' : World} {args : Array Value} {ds : List (DataW H)} {before : List MemPlace} {t : TypeId} (hv : s.vars = [])
    (hW : DataW.Whole enc P f.params.toList [] apart W args.toList ds [] before) (hs : Keeps (fun _ => False) W W') (e : s.fn H (ds ++ []) = { results := [.lit (.bool true)], args := ds })
    (hr : f.resultTypes = #[t]) (ht : P.underlying t = some .bool) (hl : laidOutB P = true) (hrec : (f.params.toList.all fun t => P.readableRec t && decide (t < P.types.size)) = true) :
    s.post enc P f apart fresh handsOn false W args (.bool true) W' := by
  have hlt := hW.lt
  have hW2 := hW
  obtain ⟨p, q, hA, hV, hpq, _, _⟩ := hW2
  have hlt' : ∀ x ∈ p, x.block < W.heap.size := fun x hx => hlt x (by rw [hpq]; exact List.mem_append_left _ hx)
  refine ⟨ds, [], before, [], p, [], by rw [hv]; exact hW, ?_, ?_, ?_, (Keeps.since hs).frame _, fun h => by cases h⟩
  · rw [e, hr]
    exact trodAll_mk1 (shut_bool ht _)
  · rw [e]
    exact trodAll_stays hl hrec hA (fun x hx => (Keeps.since hs).sameAt (hlt' x hx)) (fun x hx => by simpa using hlt' x hx)
  · rw [e, hv]
    rfl
end
end Go.Pv

namespace Go.Pv
def sn (c i : Nat) : Nat := 1000000 + 16 * i + c
def dynGo (c : Nat) : Nat → List (Option Row) → Heap
  | _, [] => []
  | i, none :: M => dynGo c (i + 1) M
  | i, some y :: M => (sn c i, y) :: dynGo c (i + 1) M
def dynH (c : Nat) (M : List (Option Row)) (l : Heap) : Heap := dynGo c 0 M ++ l
def lows : Heap → Prop
  | [] => True
  | (r, _) :: l => r < 1000000 ∧ lows l
theorem lows_get : ∀ {l : Heap}, lows l → ∀ r, 1000000 ≤ r → hget l r = none
  | [], _, r, _ => rfl
  | (s, x) :: l, h, r, hr => by
    simp only [hget]
    rw [if_neg (by have := h.1; omega)]
    exact lows_get h.2 r hr
theorem hget_append (D l : Heap) (r : Nat) : hget (D ++ l) r = match hget D r with | some x => some x | none => hget l r := by
  induction D with
  | nil => rfl
  | cons x D ih =>
    obtain ⟨s, y⟩ := x
    simp only [List.cons_append, hget]
    split
    · rfl
    · exact ih
theorem hget_dynGo_low {c : Nat} {r : Nat} (hr : r < 1000000) : ∀ (M : List (Option Row)) (i : Nat), hget (dynGo c i M) r = none
  | [], _ => rfl
  | none :: M, i => hget_dynGo_low hr M (i + 1)
  | some y :: M, i => by
    simp only [dynGo, hget]
    rw [if_neg (by unfold sn; omega)]
    exact hget_dynGo_low hr M (i + 1)
theorem hget_dynGo {c : Nat} : ∀ (M : List (Option Row)) (i j : Nat), hget (dynGo c i M) (sn c j) = if i ≤ j then (M[j - i]?).join else none
  | [], i, j => by simp [dynGo, hget]
  | none :: M, i, j => by
    simp only [dynGo]
    rw [hget_dynGo M (i + 1) j]
    by_cases h : i ≤ j
    · rw [if_pos h]
      by_cases h2 : i = j
      · subst h2; rw [if_neg (by omega)]; simp
      · rw [if_pos (by omega), show j - i = (j - (i + 1)) + 1 by omega, List.getElem?_cons_succ]
    · rw [if_neg h, if_neg (by omega)]
  | some y :: M, i, j => by
    simp only [dynGo, hget]
    by_cases h2 : i = j
    · subst h2; simp
    · rw [if_neg (by unfold sn; omega), hget_dynGo M (i + 1) j]
      by_cases h : i ≤ j
      · rw [if_pos h, if_pos (by omega), show j - i = (j - (i + 1)) + 1 by omega, List.getElem?_cons_succ]
      · rw [if_neg h, if_neg (by omega)]
theorem hget_dyn {c : Nat} {M : List (Option Row)} {l : Heap} {r : Nat} (hr : r < 1000000) : hget (dynH c M l) r = hget l r := by
  simp only [dynH, hget_append, hget_dynGo_low hr]
theorem hget_dyn_sn {c : Nat} {M : List (Option Row)} {l : Heap} (j : Nat) (hl : lows l) : hget (dynH c M l) (sn c j) = (M[j]?).join := by
  simp only [dynH, hget_append, hget_dynGo, Nat.zero_le, if_true, Nat.sub_zero]
  cases (M[j]?).join with
  | some x => rfl
  | none => exact lows_get hl _ (by unfold sn; omega)
theorem dyR {c : Nat} {M : List (Option Row)} {l : Heap} {r : Nat} {x : Option Row} (h : hget l r = x) (hr : r < 1000000 := by decide) : hget (dynH c M l) r = x := (hget_dyn hr).trans h
theorem dyS {c : Nat} {M : List (Option Row)} {l : Heap} {r : Nat} (h : (hget l r).isSome = true) (hr : r < 1000000 := by decide) : (hget (dynH c M l) r).isSome = true := by rw [hget_dyn hr]; exact h
theorem hput_append {D l : Heap} {r : Nat} {x : Row} (h : hget D r = none) : hput (D ++ l) r x = D ++ hput l r x := by
  induction D with
  | nil => rfl
  | cons y D ih =>
    obtain ⟨s, z⟩ := y
    simp only [hget] at h
    split at h
    · cases h
    · rename_i hs
      simp only [List.cons_append, hput]
      rw [if_neg hs, ih h]
theorem hput_dyn {c : Nat} {M : List (Option Row)} {l : Heap} {r : Nat} {x : Row} (hr : r < 1000000) : hput (dynH c M l) r x = dynH c M (hput l r x) := hput_append (hget_dynGo_low hr M 0)
class DataM (M : List (Option Row)) : Prop where
  data : ∀ y : Row, some y ∈ M → 1 ≤ y.k ∧ ∃ l : List PD, y.els = l.map PV.d
def nelsGo {α : Type} (f : Nat → α → PV) : Nat → List α → List PV
  | _, [] => []
  | i, x :: l => f i x :: nelsGo f (i + 1) l
def nels {α : Type} (f : Nat → α → PV) (l : List α) : List PV := nelsGo f 0 l
theorem nelsGo_length {α : Type} (f : Nat → α → PV) : ∀ (l : List α) (i : Nat), (nelsGo f i l).length = l.length
  | [], _ => rfl
  | x :: l, i => by simp [nelsGo, nelsGo_length f l]
theorem nelsGo_get {α : Type} (f : Nat → α → PV) : ∀ (l : List α) (i j : Nat), (nelsGo f i l)[j]? = (l[j]?).map (f (i + j))
  | [], i, j => by simp [nelsGo]
  | x :: l, i, 0 => by simp [nelsGo]
  | x :: l, i, j + 1 => by
    simp only [nelsGo, List.getElem?_cons_succ]
    rw [nelsGo_get f l (i + 1) j, show i + 1 + j = i + (j + 1) by omega]
theorem nels_length {α : Type} (f : Nat → α → PV) (l : List α) : (nels f l).length = l.length := nelsGo_length f l 0
theorem nels_get {α : Type} (f : Nat → α → PV) (l : List α) (j : Nat) : (nels f l)[j]? = (l[j]?).map (f j) := by
  unfold nels; rw [nelsGo_get, Nat.zero_add]
end Go.Pv

namespace Go.Pv
class NestF {α : Type} (F : Nat → α → PV) : Prop where
  ren : ∀ ρ r x, (F r x).ren ρ = F (ρ r) x
  rows : ∀ r x s, s ∈ rowsOf (F r x) → s = r
  refs : ∀ H r x, (hget H r).isSome = true → refsIn H (F r x)
  kill : ∀ q r x, r ≠ q → (F r x).kill q = F r x
  clean : ∀ r x, clean (F r x)
  byte : ∀ r x, isByte (F r x) = false
class NestG {α : Type} (g : α → Row) : Prop where
  data : ∀ x, 1 ≤ (g x).k ∧ ∃ l : List PD, (g x).els = l.map PV.d
def nelF {α : Type} (c : Nat) (F : Nat → α → PV) (L : List α) : List PV := nels (fun i x => F (sn c i) x) L
def subs {α : Type} (g : α → Row) (L : List α) : List (Option Row) := L.map fun x => some (g x)
instance {α : Type} (g : α → Row) [NestG g] (L : List α) : DataM (subs g L) := ⟨fun y hy => by
  simp only [subs, List.mem_map, Option.some.injEq] at hy
  obtain ⟨x, _, rfl⟩ := hy
  exact NestG.data x⟩
instance {α : Type} (g : α → Row) [NestG g] (L : List α) (i : Nat) : DataM ((subs g L).set i none) := ⟨fun y hy => by
  rcases List.mem_or_eq_of_mem_set hy with h | h
  · exact (inferInstance : DataM (subs g L)).data y h
  · cases h⟩
theorem subs_get {α : Type} (g : α → Row) (L : List α) (j : Nat) : ((subs g L)[j]?).join = (L[j]?).map g := by
  simp only [subs, List.getElem?_map]
  cases L[j]? <;> rfl
theorem sn_ne {c i r : Nat} (h : r < 1000000) : r ≠ sn c i := by unfold sn; omega
@[go_sem] theorem sn_eq1 {c i r : Nat} (h : r < 1000000) : (r = sn c i) = False := by simp [sn_ne h]
@[go_sem] theorem sn_eq2 {c i r : Nat} (h : r < 1000000) : (sn c i = r) = False := by simp [Ne.symm (sn_ne (c := c) (i := i) h)]
attribute [go_sem] hget_dyn hput_dyn
theorem freshLow_append_high {D l : Heap} (h : ∀ x ∈ D, 1000000 ≤ x.1) : freshLow (D ++ l) = freshLow l := by
  induction D with
  | nil => rfl
  | cons x D ih =>
    obtain ⟨s, y⟩ := x
    simp only [List.cons_append, freshLow]
    rw [if_pos (h (s, y) (List.mem_cons_self ..)), ih fun x hx => h x (List.mem_cons_of_mem _ hx)]
@[go_sem] theorem freshLow_dyn {c : Nat} {M : List (Option Row)} {l : Heap} : freshLow (dynH c M l) = freshLow l := freshLow_append_high (by
  have : ∀ (M : List (Option Row)) (i : Nat), ∀ x ∈ dynGo c i M, 1000000 ≤ x.1 := fun M => by
    induction M with
    | nil => intro i x hx; simp [dynGo] at hx
    | cons o M ih =>
      intro i x hx
      cases o with
      | none => exact ih (i + 1) x hx
      | some y =>
        rcases List.mem_cons.1 hx with rfl | hx
        · show 1000000 ≤ sn c i; unfold sn; omega
        · exact ih (i + 1) x hx
  exact this M 0)
theorem hkill_append (r : Nat) (D l : Heap) : hkill r (D ++ l) = hkill r D ++ hkill r l := by
  induction D with
  | nil => rfl
  | cons x D ih =>
    obtain ⟨s, y⟩ := x
    simp only [List.cons_append, hkill]
    split
    · exact ih
    · rw [ih]; rfl
theorem hkill_dynGo {c r : Nat} (hr : r < 1000000) : ∀ (M : List (Option Row)) (i : Nat), (∀ y : Row, some y ∈ M → 1 ≤ y.k ∧ ∃ l : List PD, y.els = l.map PV.d) → hkill r (dynGo c i M) = dynGo c i M
  | [], i, _ => rfl
  | none :: M, i, h => hkill_dynGo hr M (i + 1) fun y hy => h y (List.mem_cons_of_mem _ hy)
  | some y :: M, i, h => by
    simp only [dynGo, hkill]
    rw [if_neg (Ne.symm (sn_ne hr)), hkill_dynGo hr M (i + 1) fun y hy => h y (List.mem_cons_of_mem _ hy)]
    obtain ⟨_, l, hl⟩ := h y (List.mem_cons_self ..)
    have : killL r y.els = y.els := by rw [hl]; exact dl_kill r l
    rw [this]
@[go_sem] theorem hkill_dyn {c r : Nat} {M : List (Option Row)} [hM : DataM M] {l : Heap} (hr : r < 1000000) : hkill r (dynH c M l) = dynH c M (hkill r l) := by
  simp only [dynH, hkill_append, hkill_dynGo hr M 0 hM.data]
theorem heapLe_append {D l h : Heap} (h1 : heapLe D h) (h2 : heapLe l h) : heapLe (D ++ l) h := by
  induction D with
  | nil => exact h2
  | cons x D ih => obtain ⟨s, y⟩ := x; exact ⟨h1.1, ih h1.2⟩
theorem heapLe_dyn {c : Nat} {M M' : List (Option Row)} {l l2 : Heap} (e : M = M') (h : heapLe l (dynH c M' l2)) : heapLe (dynH c M l) (dynH c M' l2) := by
  subst e
  refine heapLe_append ?_ h
  have : ∀ (N : List (Option Row)) (i : Nat), (∀ j, i ≤ j → (N[j - i]?).join = (M[j]?).join) → heapLe (dynGo c i N) (dynH c M l2) := fun N => by
    induction N with
    | nil => exact fun i _ => trivial
    | cons o N ih =>
      intro i hN
      have ih' := ih (i + 1) fun j hj => by
        have := hN j (by omega)
        rw [show j - i = (j - (i + 1)) + 1 by omega, List.getElem?_cons_succ] at this; exact this
      cases o with
      | none => exact ih'
      | some y =>
        refine ⟨?_, ih'⟩
        have h1 := hN i (Nat.le_refl _)
        simp at h1
        simp only [dynH, hget_append, hget_dynGo, Nat.zero_le, if_true, Nat.sub_zero, ← h1]
  exact this M 0 fun j _ => rfl
theorem heapRefs_append {H0 D l : Heap} (h1 : heapRefs H0 D) (h2 : heapRefs H0 l) : heapRefs H0 (D ++ l) := by
  induction D with
  | nil => exact h2
  | cons x D ih => obtain ⟨s, y⟩ := x; exact ⟨h1.1, ih h1.2⟩
theorem heapRefs_dyn {c : Nat} {M : List (Option Row)} [hM : DataM M] {H0 l : Heap} (h : heapRefs H0 l) : heapRefs H0 (dynH c M l) := by
  refine heapRefs_append ?_ h
  have : ∀ (N : List (Option Row)) (i : Nat), (∀ y : Row, some y ∈ N → 1 ≤ y.k ∧ ∃ l : List PD, y.els = l.map PV.d) → heapRefs H0 (dynGo c i N) := fun N => by
    induction N with
    | nil => exact fun i _ => trivial
    | cons o N ih =>
      intro i hN
      have ih' := ih (i + 1) fun y hy => hN y (List.mem_cons_of_mem _ hy)
      cases o with
      | none => exact ih'
      | some y =>
        refine ⟨?_, ih'⟩
        obtain ⟨_, l, hl⟩ := hN y (List.mem_cons_self ..)
        show refsInL H0 y.els
        rw [hl, refsInL_d]; trivial
  exact this M 0 hM.data
theorem refsInL_each {H : Heap} : ∀ {l : List PV}, (∀ (i : Nat) (p : PV), l[i]? = some p → refsIn H p) → refsInL H l
  | [], _ => trivial
  | p :: l, h => ⟨h 0 p rfl, refsInL_each fun i q hq => h (i + 1) q (by simpa using hq)⟩
@[go_sem] theorem nelF_length {α : Type} (c : Nat) (F : Nat → α → PV) (L : List α) : (nelF c F L).length = L.length := nels_length _ L
theorem nelF_get {α : Type} (c : Nat) (F : Nat → α → PV) (L : List α) (i : Nat) : (nelF c F L)[i]? = (L[i]?).map (F (sn c i)) := nels_get _ L i
attribute [go_sem] nelF_get
theorem nelF_refs {α : Type} {c : Nat} {F : Nat → α → PV} {g : α → Row} [NestF F] {L : List α} {l : Heap} (hl : lows l) : refsInL (dynH c (subs g L) l) (nelF c F L) := refsInL_each fun i p hp => by
  rw [nelF_get, Option.map_eq_some_iff] at hp
  obtain ⟨x, h1, rfl⟩ := hp
  exact NestF.refs _ _ _ (by rw [hget_dyn_sn i hl, subs_get, h1]; rfl)
theorem killL_of {r : Nat} {l : List PV} (h : ∀ (i : Nat) (p : PV), l[i]? = some p → p.kill r = p) : killL r l = l := by
  rw [killL_map]
  apply List.ext_getElem?
  intro i
  rw [List.getElem?_map]
  cases hi : l[i]? with
  | none => rfl
  | some p => rw [Option.map_some, h i p hi]
@[go_sem] theorem nelF_kill {α : Type} {c r : Nat} {F : Nat → α → PV} [NestF F] {L : List α} (hr : r < 1000000) : killL r (nelF c F L) = nelF c F L := killL_of fun i p hp => by
  rw [nelF_get, Option.map_eq_some_iff] at hp
  obtain ⟨x, _, rfl⟩ := hp
  exact NestF.kill _ _ _ (Ne.symm (sn_ne hr))
@[go_sem] theorem nelF_kill_hole {α : Type} {c r i : Nat} {F : Nat → α → PV} [NestF F] {L : List α} {p : PV} (hr : r < 1000000) : killL r ((nelF c F L).set i p) = (nelF c F L).set i (p.kill r) := by
  rw [killL_map, List.map_set, ← killL_map, nelF_kill hr]
theorem rowsOfL_of {r : Nat} : ∀ {l : List PV}, (∀ (i : Nat) (p : PV), l[i]? = some p → r ∉ rowsOf p) → r ∉ rowsOfL l
  | [], _ => by simp [rowsOfL]
  | p :: l, h => by
    simp only [rowsOfL, List.mem_append, not_or]
    exact ⟨h 0 p rfl, rowsOfL_of fun i q hq => h (i + 1) q (by simpa using hq)⟩
theorem nelF_notin {α : Type} {c r : Nat} {F : Nat → α → PV} [NestF F] {L : List α} (hr : r < 1000000) : r ∉ rowsOfL (nelF c F L) := rowsOfL_of fun i p hp hm => by
  rw [nelF_get, Option.map_eq_some_iff] at hp
  obtain ⟨x, _, rfl⟩ := hp
  exact sn_ne hr (NestF.rows _ _ _ hm)
theorem rowsOfL_append (a b : List PV) : rowsOfL (a ++ b) = rowsOfL a ++ rowsOfL b := by
  induction a with
  | nil => rfl
  | cons x a ih => simp only [List.cons_append, rowsOfL, ih, List.append_assoc]
@[go_sem] theorem nelF_app_free {α : Type} {c r : Nat} {F : Nat → α → PV} [NestF F] {L : List α} {b : List PV} (hr : r < 1000000) : (rowsOfL (nelF c F L ++ b)).contains r = (rowsOfL b).contains r := by
  rw [rowsOfL_append, List.contains_eq_mem, List.contains_eq_mem]
  have h := nelF_notin (c := c) (F := F) (L := L) hr
  simp [h]
end Go.Pv

namespace Go.Pv
def kenv (ks : List Nat) (e : List (Nat × PV)) : List (Nat × PV) := match ks with
  | [] => []
  | k :: l => (k, eget e k) :: kenv l e
def kheap (ks : List Nat) (h : Heap) : Heap := match ks with
  | [] => []
  | k :: l => match hget h k with
    | some x => (k, x) :: kheap l h
    | none => kheap l h
theorem idx_bind {α β : Type} {l : List α} {i : Int} {f : α → Option β} {r : β} (h : (idx l i).bind f = some r) : ∃ x, (0 ≤ i ∧ i < l.length ∧ l[i.toNat]? = some x ∧ i.toNat < l.length) ∧ f x = some r :=
  let ⟨x, h1, h2⟩ := bind_some h; ⟨x, idx_some h1, h2⟩
section
variable {P : Program} {G : List (Nat × PD)} {ro : Option Nat} {N : Nat} {ops : Array Oper} {σ τ σ' : St} {o : Oper} {rest : List Oper}
theorem pf {f : FuncId} {fn : Func} {c : Code} {args : List PV} {res : PV} {n : Nat} {e0 : List (Nat × PV)} (hf : P.funcs[f]? = some fn) (hn : fn.ntmps = n)
    (h : AWp P G none n c ⟨e0, [], [], none⟩ (Fin P G fn fun p H => ∃ u, frzT H p = some u ∧ leV u res)) (hb : fn.body = some c := by rfl) (hN : args.length ≤ n := by simp)
    (he : argEnv 0 args = e0 := by (simp only [argEnv, Nat.reduceAdd, Nat.zero_add]; rfl)) : PureFn P G f args res := by
  subst hn he; exact PureFn.intro2 hf hb hN h
theorem Fn.pf {f : FuncId} {fn : Func} {c : Code} {args : List PV} {n : Nat} {e0 : List (Nat × PV)} {R : PV → Heap → Prop} (hf : P.funcs[f]? = some fn) (hn : fn.ntmps = n)
    (h : AWp P G none n c ⟨e0, [], [], none⟩ (Fin P G fn R)) (hb : fn.body = some c := by rfl) (hN : args.length ≤ n := by simp)
    (he : argEnv 0 args = e0 := by (simp only [argEnv, Nat.reduceAdd, Nat.zero_add]; rfl)) : Fn P G f args [] R := by
  subst hn he; exact Fn.intro hf hb hN h
theorem rt {fn : Func} {p u res : PV} (hp : resV P G fn.results.toList σ = some p := by (simp only [go_sem, List.length_append, List.length_set, List.length_replicate, ↓reduceIte]; rfl))
    (hd : σ.dfr = [] := by first | exact True.intro | rfl)
    (hf : frzT σ.heap p = some u := by (simp only [go_sem, lenc_nil, List.take_length, List.length_append, List.length_set, List.length_replicate, ↓reduceIte]; rfl))
    (hl : leV u res := by first | exact leV_refl _ | (simp only [go_sem, leV, leVL, leD, leDL, lenc_nil, leD_refl, leDL_refl, lstD_le, ↓reduceIte]; done)) :
    Fin P G fn (fun p H => ∃ u, frzT H p = some u ∧ leV u res) .ret σ := ⟨p, hp, hd, u, hf, hl⟩
theorem rtRow {fn : Func} {e k n : Nat} {l : List PD} (hp : resV P G fn.results.toList σ = some (.slc 1000 0 n) := by (simp only [go_sem, ↓reduceIte]; rfl)) (hd : σ.dfr = [] := by first | exact True.intro | rfl) (hn : n = l.length := by (rw [lenc_length]; rfl))
    (hh : σ.heap = [(1000, ⟨e, k, dl l⟩)] := by first | rfl | (simp only [go_sem, lenc_nil, lenc_cons, ↓reduceIte]; done)) : Fin P G fn (fun p H => p = .slc 1000 0 l.length ∧ H = [(1000, ⟨e, k, dl l⟩)]) .ret σ :=
  ⟨_, hp, hd, by rw [hn], hh⟩
theorem sg {id : Nat} {l : List Oper} {y : Code} {Q : Post} (h : ∀ K : St → Prop, (∀ σ, AWp P G ro N y σ Q → K σ) → AOps P G ro N l.toArray l σ K) : AWp P G ro N (.seq (.region id l.toArray false) y) σ Q :=
  AWp.seq fun K hK => AWp.reg (h K hK)
theorem sd {id : Nat} {l : List Oper} {y : Code} {Q : Post} (hm : P.follows .mixedOrders = true) (h : ∀ K : St → Prop, (∀ σ, AWp P G ro N y σ Q → K σ) → DOps P G ro N [] l.toArray K l [] σ) : AWp P G ro N (.seq (.region id l.toArray true) y) σ Q :=
  AWp.seq fun K hK => AWp.draw hm [] trivial (h K hK)
theorem oo {Q : St → Prop} (h2 : AOps P G ro N ops rest σ' Q) (h : ∀ K : St → Prop, K σ' → vcOpU P G ro N (dsts ops) o σ K := by (intro K k; simp (disch := omega) only [go_sem, ↓reduceIte]; exact k)) : AOps P G ro N ops (o :: rest) σ Q :=
  AOps.consU fun K hK => h K (hK _ h2)
theorem ol {Q : St → Prop} (h2 : AOps P G ro N ops rest σ' Q) (h : ∀ K : St → Prop, K σ' → vcOpL P N (dsts ops) o σ K := by (intro K k; simp (disch := omega) only [go_sem, ↓reduceIte]; exact k)) : AOps P G ro N ops (o :: rest) σ Q :=
  AOps.consL fun K hK => h K (hK _ h2)
theorem ox {Q : St → Prop} (h2 : AOps P G ro N ops rest σ' Q) (h : ∀ K : St → Prop, K σ' → vcOpX P N (dsts ops) o σ K := by (intro K k; simp (disch := omega) only [go_sem, ↓reduceIte]; exact k)) : AOps P G ro N ops (o :: rest) σ Q :=
  AOps.consX fun K hK => h K (hK _ h2)
theorem dd {xs : Exc} {acc : List Foot} {f : Foot} {Q : St → Prop} (h2 : DOps P G ro N xs ops Q rest (acc ++ [f]) σ') (h : ∀ K : Foot → St → Prop, K f σ' → dgStep N (dsts ops) o σ (dvStep P G ro N xs o σ) K := by (intro K k; simp (disch := omega) only [go_sem, ↓reduceIte]; exact k)) : DOps P G ro N xs ops Q (o :: rest) acc σ :=
  DOps.consU fun K hK => h K (hK _ _ h2)
theorem ddl {xs : Exc} {acc : List Foot} {f : Foot} {Q : St → Prop} (h2 : DOps P G ro N xs ops Q rest (acc ++ [f]) σ') (h : ∀ K : Foot → St → Prop, K f σ' → dgStep N (dsts ops) o σ (dvStepL P N xs o σ) K := by (intro K k; simp (disch := omega) only [go_sem, ↓reduceIte]; exact k)) : DOps P G ro N xs ops Q (o :: rest) acc σ :=
  DOps.consLU fun K hK => h K (hK _ _ h2)
theorem ddx {xs : Exc} {acc : List Foot} {f : Foot} {Q : St → Prop} (h2 : DOps P G ro N xs ops Q rest (acc ++ [f]) σ') (h : ∀ K : Foot → St → Prop, K f σ' → dgStep N (dsts ops) o σ (dvStepX P N xs o σ) K := by (intro K k; simp (disch := omega) only [go_sem, ↓reduceIte]; exact k)) : DOps P G ro N xs ops Q (o :: rest) acc σ :=
  DOps.consX fun K hK => h K (hK _ _ h2)
theorem cl {f : FuncId} {c : Call} {args : List PV} {res : PV} {Q : St → Prop} (hf : PureFn P G f args res) (h2 : AOps P G ro N ops rest σ' Q) (hg : ∀ {K : St → Prop}, OpT P G ro N o σ K → vcOpU P G ro N (dsts ops) o σ K := by (intro K k; simp (disch := omega) only [go_sem, ↓reduceIte]; exact k))
    (ho : o.op = .call c := by rfl) (hc : c.callee = .value (.func f) := by rfl) (hcal : callable P f = true := by kernel_rfl)
    (ha : argsOk σ.heap (evalL σ c.args.toList) args := by (repeat' (first | exact trivial | exact rfl | exact dyR rfl | exact dyS rfl | refine heapLe_dyn rfl ?_ | refine heapRefs_dyn ?_ | exact nelF_refs (by repeat' (first | exact trivial | decide | apply And.intro)) | apply And.intro))) (hd : dstOk N o.dst := by (simp only [go_sem, ↓reduceIte]; done))
    (hp : σ.put o.dst res = σ' := by (simp only [go_sem, ↓reduceIte]; rfl)) (hr : dOnly res := by (simp only [go_sem]; done)) : AOps P G ro N ops (o :: rest) σ Q :=
  AOps.consU fun _ hK => hg (OpT.call ho hc hcal hf ha hd (hp ▸ hK _ h2) hr)
theorem clRow {f : FuncId} {c : Call} {xo : Operand} {args : List PV} {e k : Nat} {l : List PD} {Q : St → Prop} (r : Nat) (hf : RowFn P G f args e k l) (h2 : AOps P G ro N ops rest σ' Q) (hg : ∀ {K : St → Prop}, OpT P G ro N o σ K → vcOpU P G ro N (dsts ops) o σ K := by (intro K k; simp (disch := omega) only [go_sem, ↓reduceIte]; exact k))
    (ho : o.op = .call c := by rfl) (hc : c.callee = .value xo := by rfl) (hx : calleeV (σ.eval xo) = some (f, []) := by rfl) (hcal : callable P f = true := by kernel_rfl)
    (ha : argsOk σ.heap (evalL σ c.args.toList) args := by (repeat' (first | exact trivial | exact rfl | exact dyR rfl | exact dyS rfl | refine heapLe_dyn rfl ?_ | refine heapRefs_dyn ?_ | exact nelF_refs (by repeat' (first | exact trivial | decide | apply And.intro)) | apply And.intro))) (hd : dstOk N o.dst := by (simp only [go_sem, ↓reduceIte]; done)) (hr0 : hget σ.heap r = none := by rfl) (hp0 : 1000 ≤ r := by decide)
    (hp : ({ σ with heap := hput σ.heap r { e, k, els := dl l } } : St).put o.dst (.slc r 0 l.length) = σ' := by (simp only [go_sem, ↓reduceIte]; rfl)) : AOps P G ro N ops (o :: rest) σ Q :=
  AOps.consU fun _ hK => hg (OpT.callRow ho hc hx hcal hf ha hd hr0 hp0 (hp ▸ hK _ h2))
theorem clV {f : FuncId} {c : Call} {xo : Operand} {args : List PV} {res : PV} {Q : St → Prop} (hf : PureFn P G f args res) (h2 : AOps P G ro N ops rest σ' Q) (hd : dstOk N o.dst := by (simp only [go_sem, ↓reduceIte]; done)) (hg : ∀ {K : St → Prop}, OpT P G ro N o σ K → vcOpC P G ro N (dsts ops) o σ K := by (intro K k; simp (disch := omega) only [go_sem, ↓reduceIte]; exact k))
    (ho : o.op = .call c := by rfl) (hc : c.callee = .value xo := by rfl) (hx : calleeV (σ.eval xo) = some (f, []) := by rfl) (hcal : callable P f = true := by kernel_rfl)
    (ha : argsOk σ.heap (evalL σ c.args.toList) args := by (repeat' (first | exact trivial | exact rfl | exact dyR rfl | exact dyS rfl | refine heapLe_dyn rfl ?_ | refine heapRefs_dyn ?_ | exact nelF_refs (by repeat' (first | exact trivial | decide | apply And.intro)) | apply And.intro)))
    (hp : σ.put o.dst res = σ' := by (simp only [go_sem, ↓reduceIte]; rfl)) (hr : dOnly res := by (simp only [go_sem]; done)) (hcl : clean res := by (simp only [clean, cleanL, and_self]; done)) (hrf : refsIn [] res := by (simp only [go_sem]; done)) (hren : res.ren id = res := by rfl) : AOps P G ro N ops (o :: rest) σ Q :=
  AOps.consC hd fun _ hK => hg (OpT.callV ho hc hx hcal hf ha hd (hp ▸ hK _ h2) hr hcl hrf hren)
theorem dcl {f : FuncId} {c : Call} {args : List PV} {res : PV} {xs : Exc} {acc : List Foot} {ft : Foot} {Q : St → Prop} (hf : PureFn P G f args res) (h2 : DOps P G ro N xs ops Q rest (acc ++ [ft]) σ')
    (ho : o.op = .call c := by rfl) (hc : c.callee = .value (.func f) := by rfl) (hcal : callable P f = true := by kernel_rfl)
    (ha : argsOk σ.heap (evalL σ c.args.toList) args := by (repeat' (first | exact trivial | exact rfl | exact dyR rfl | exact dyS rfl | refine heapLe_dyn rfl ?_ | refine heapRefs_dyn ?_ | exact nelF_refs (by repeat' (first | exact trivial | decide | apply And.intro)) | apply And.intro))) (hd : dstOk N o.dst := by (simp only [go_sem, ↓reduceIte]; done))
    (hp : σ.put o.dst res = σ' := by (simp only [go_sem, ↓reduceIte]; rfl)) (hr : dOnly res := by (simp only [go_sem]; done)) (hx : exE xs (dstEff o.dst res) := by (simp only [go_sem, or_true, true_or, ↓reduceIte]; done))
    (hg : ∀ (S : (Foot → St → Prop) → Prop) (K : Foot → St → Prop), (∀ K', K' (some (tmpKeys (opnds o.op) ++ rowKeys σ (opnds o.op), dstKeys o.dst)) σ' → S K') → K ft σ' → dgStep N (dsts ops) o σ S K := by (intro S K hS k; simp (disch := omega) only [go_sem, ↓reduceIte]; exact hS _ k)) : DOps P G ro N xs ops Q (o :: rest) acc σ :=
  DOps.consC fun _ hK => hg _ _ (fun _ hK' => OpX.call ho hc hcal hf ha hd hr hx (by rw [hp]; exact hK')) (hK _ _ h2)
theorem ct {l l1 l2 : List Oper} {Q : St → Prop} {e0 : List (Nat × PV)} {h0 : Heap} (n : Nat) (ks rs : List Nat) (e : List (Nat × PV) → List (Nat × PV))
    (h1 : AOps P G ro N ops l1 σ (fun σ' => Sub G N σ' ⟨e e0, h0, σ.dfr, σ.gh⟩)) (h2 : AOps P G ro N ops l2 ⟨e e0, h0, σ.dfr, σ.gh⟩ Q)
    (he : kenv ks σ.env = e0 := by (simp only [kenv, eget, ↓reduceIte, Nat.reduceEqDiff]; rfl)) (hh : kheap rs σ.heap = h0 := by (simp only [kheap, hget, hget_dyn, ↓reduceIte, Nat.reduceEqDiff, Nat.reduceLT]; rfl))
    (hl1 : l.take n = l1 := by (simp only [List.take_succ_cons, List.take_zero]; rfl)) (hl2 : l.drop n = l2 := by (simp only [List.drop_succ_cons, List.drop_zero]; rfl)) : AOps P G ro N ops l σ Q := by
  subst hl1 hl2 he hh; exact AOps.cut n _ h1 h2
theorem sb (h1 : envLe τ.env σ.env := by (repeat' (first | exact trivial | exact rfl | exact dyR rfl | exact dyS rfl | refine heapLe_dyn rfl ?_ | refine heapRefs_dyn ?_ | exact nelF_refs (by repeat' (first | exact trivial | decide | apply And.intro)) | apply And.intro | exact slcl (by (simp only [List.length_append, List.length_set, List.length_replicate, List.length_cons, List.length_nil, Nat.zero_add]; done)))))
    (h2 : heapLe τ.heap σ.heap := by (repeat' (first | exact trivial | exact rfl | exact dyR rfl | exact dyS rfl | refine heapLe_dyn rfl ?_ | refine heapRefs_dyn ?_ | exact nelF_refs (by repeat' (first | exact trivial | decide | apply And.intro)) | exact congrArg (fun els => some (Row.mk _ _ els)) (dl_set_eq rfl) | (simp only [List.length_append, List.length_set, List.length_replicate, List.length_cons, List.length_nil, Nat.zero_add]; first | exact rfl | exact dyR rfl) | apply And.intro)))
    (h3 : envRefs τ.heap τ.env := by (repeat' (first | exact trivial | exact rfl | exact dyR rfl | exact dyS rfl | refine heapLe_dyn rfl ?_ | refine heapRefs_dyn ?_ | exact nelF_refs (by repeat' (first | exact trivial | decide | apply And.intro)) | apply And.intro | (simp only [go_sem, ↓reduceIte]; done))))
    (h4 : heapRefs τ.heap τ.heap := by (repeat' (first | exact trivial | exact row_refs _ _ | exact rfl | exact dyR rfl | exact dyS rfl | refine heapLe_dyn rfl ?_ | refine heapRefs_dyn ?_ | exact nelF_refs (by repeat' (first | exact trivial | decide | apply And.intro)) | apply And.intro | (simp only [go_sem, ↓reduceIte]; done))))
    (h5 : σ.dfr = τ.dfr ∧ refsInL τ.heap τ.dfr ∧ σ.gh = τ.gh := by first | exact ⟨rfl, trivial, rfl⟩ | exact ⟨rfl, (by simp only [go_sem, envL, envLGo, ↓reduceIte]), rfl⟩) : Sub G N σ τ := Sub.mk h1 h2 h3 h4 h5
theorem sc (h2 : heapLe τ.heap σ.heap := by (repeat' (first | exact trivial | exact rfl | exact dyR rfl | exact dyS rfl | refine heapLe_dyn rfl ?_ | refine heapRefs_dyn ?_ | exact nelF_refs (by repeat' (first | exact trivial | decide | apply And.intro)) | exact congrArg (fun els => some (Row.mk _ _ els)) (dl_set_eq rfl) | (simp only [List.length_append, List.length_set, List.length_replicate, List.length_cons, List.length_nil, Nat.zero_add]; first | exact rfl | exact dyR rfl) | apply And.intro))) (h1 : envCv σ.heap τ.heap σ.env τ.env := by (repeat' (first | exact trivial | exact .inl ⟨leV_refl _, by first | exact trivial | exact rfl | (simp only [go_sem, ↓reduceIte]; done)⟩ | exact .inl ⟨le_nil _ _, trivial⟩ | exact .inr ⟨_, frz_row rfl (by first | rfl | (simp only [List.length_append, List.length_set, List.length_replicate, List.length_cons, List.length_nil, Nat.zero_add]; done)), leV_refl _, rows_slc rfl⟩ | exact .inr ⟨.dptr _ _ _ _, rfl, leV_refl _, rows_ptr rfl⟩ | exact .inl ⟨slcle (by simp only [List.length_append, List.length_set, List.length_replicate, List.length_cons, List.length_nil, Nat.zero_add]; done), rfl⟩ | exact .inl ⟨by (simp only [leV]; exact lstD_le _ _), trivial⟩ | exact .inr ⟨_, by (simp only [go_sem, List.take_length, List.length_append, List.length_set, List.length_replicate, ↓reduceIte]; first | done | rfl), by (first | exact leV_refl _ | (simp only [go_sem, leV, leVL, leD, leDL, lenc_nil, leD_refl, leDL_refl, ↓reduceIte]; done)), by (intro r hr; simp only [go_sem, rowsOf, rowsOfL, List.mem_cons, List.not_mem_nil, or_false, List.append_nil, ↓reduceIte] at hr; first | done | (subst hr; rfl) | (rcases hr with rfl | rfl <;> rfl) | (rcases hr with rfl | rfl | rfl <;> rfl) | (rcases hr with rfl | rfl | rfl | rfl <;> rfl))⟩ | exact .inl ⟨by (simp only [go_sem, leV, leD, leDL, lenc_nil, leD_refl, leDL_refl, lstD_le, ↓reduceIte]; done), trivial⟩ |
      exact .inr ⟨_, by (simp only [go_sem, List.take_length, List.length_append, List.length_set, List.length_replicate, ↓reduceIte]; first | done | rfl), by (first | exact leV_refl _ | (simp only [go_sem, leV, leVL, leD, leDL, lenc_nil, leD_refl, leDL_refl, ↓reduceIte]; done)), by (intro r hr; simp only [go_sem, rowsOf, rowsOfL, List.mem_cons, List.not_mem_nil, or_false, List.append_nil, ↓reduceIte] at hr; first | done | (subst hr; rfl) | (rcases hr with rfl | rfl <;> rfl) | (rcases hr with rfl | rfl | rfl <;> rfl) | (rcases hr with rfl | rfl | rfl | rfl <;> rfl))⟩ | apply And.intro)))
    (h4 : heapRefs τ.heap τ.heap := by (repeat' (first | exact trivial | exact row_refs _ _ | exact rfl | exact dyR rfl | exact dyS rfl | refine heapLe_dyn rfl ?_ | refine heapRefs_dyn ?_ | exact nelF_refs (by repeat' (first | exact trivial | decide | apply And.intro)) | apply And.intro | (simp only [go_sem, ↓reduceIte]; done)))) (h5 : σ.dfr = τ.dfr ∧ refsInL τ.heap τ.dfr ∧ σ.gh = τ.gh := by first | exact ⟨rfl, trivial, rfl⟩ | exact ⟨rfl, (by simp only [go_sem, envL, envLGo, ↓reduceIte]), rfl⟩) : Sub G N σ τ := Sub.cv h2 h1 h4 h5
theorem sch (h : heapCv τ.heap σ.heap := by (repeat' (first | exact trivial | exact ⟨_, rfl, rfl, rfl, leVL_refl _, .inl rfl⟩ | exact ⟨_, rfl, rfl, rfl, ⟨by (simp only [leV, leD, leDL, lenc_nil, leD_refl, leDL_refl, lstD_le, and_self, and_true]; done), trivial⟩, .inr rfl⟩ | exact ⟨_, rfl, rfl, rfl, leVL_rep (by (simp only [go_sem, leD, leDL, lenc_nil, leD_refl, leDL_refl, and_self, and_true]; done)) _, .inr (rep_noByte _ rfl)⟩ | apply And.intro)))
    (h2 : heapLe τ.heap (hconv τ.heap σ.heap) := by (repeat' (first | exact trivial | exact rfl | exact dyR rfl | exact dyS rfl | refine heapLe_dyn rfl ?_ | refine heapRefs_dyn ?_ | exact nelF_refs (by repeat' (first | exact trivial | decide | apply And.intro)) | (simp only [List.length_append, List.length_set, List.length_replicate, List.length_cons, List.length_nil, Nat.zero_add]; first | exact rfl | exact dyR rfl) | apply And.intro))) (h1 : envCv (hconv τ.heap σ.heap) τ.heap σ.env τ.env := by (repeat' (first | exact trivial | exact .inl ⟨leV_refl _, by first | exact trivial | exact rfl | (simp only [go_sem, ↓reduceIte]; done)⟩ | exact .inl ⟨le_nil _ _, trivial⟩ | exact .inr ⟨_, frz_row rfl (by first | rfl | (simp only [List.length_append, List.length_set, List.length_replicate, List.length_cons, List.length_nil, Nat.zero_add]; done)), leV_refl _, rows_slc rfl⟩ | exact .inr ⟨.dptr _ _ _ _, rfl, leV_refl _, rows_ptr rfl⟩ | exact .inl ⟨slcle (by simp only [List.length_append, List.length_set, List.length_replicate, List.length_cons, List.length_nil, Nat.zero_add]; done), rfl⟩ | exact .inl ⟨by (simp only [leV]; exact lstD_le _ _), trivial⟩ | exact .inr ⟨_, by (simp only [go_sem, List.take_length, List.length_append, List.length_set, List.length_replicate, ↓reduceIte]; first | done | rfl), by (first | exact leV_refl _ | (simp only [go_sem, leV, leVL, leD, leDL, lenc_nil, leD_refl, leDL_refl, ↓reduceIte]; done)), by (intro r hr; simp only [go_sem, rowsOf, rowsOfL, List.mem_cons, List.not_mem_nil, or_false, List.append_nil, ↓reduceIte] at hr; first | done | (subst hr; rfl) | (rcases hr with rfl | rfl <;> rfl) | (rcases hr with rfl | rfl | rfl <;> rfl) | (rcases hr with rfl | rfl | rfl | rfl <;> rfl))⟩ | exact .inl ⟨by (simp only [go_sem, leV, leD, leDL, lenc_nil, leD_refl, leDL_refl, lstD_le, ↓reduceIte]; done), trivial⟩ |
      exact .inr ⟨_, by (simp only [go_sem, List.take_length, List.length_append, List.length_set, List.length_replicate, ↓reduceIte]; first | done | rfl), by (first | exact leV_refl _ | (simp only [go_sem, leV, leVL, leD, leDL, lenc_nil, leD_refl, leDL_refl, ↓reduceIte]; done)), by (intro r hr; simp only [go_sem, rowsOf, rowsOfL, List.mem_cons, List.not_mem_nil, or_false, List.append_nil, ↓reduceIte] at hr; first | done | (subst hr; rfl) | (rcases hr with rfl | rfl <;> rfl) | (rcases hr with rfl | rfl | rfl <;> rfl) | (rcases hr with rfl | rfl | rfl | rfl <;> rfl))⟩ | apply And.intro)))
    (h4 : heapRefs τ.heap τ.heap := by (repeat' (first | exact trivial | exact row_refs _ _ | exact rfl | exact dyR rfl | exact dyS rfl | refine heapLe_dyn rfl ?_ | refine heapRefs_dyn ?_ | exact nelF_refs (by repeat' (first | exact trivial | decide | apply And.intro)) | apply And.intro | (simp only [go_sem, ↓reduceIte]; done)))) (h5 : σ.dfr = τ.dfr ∧ refsInL τ.heap τ.dfr ∧ σ.gh = τ.gh := by first | exact ⟨rfl, trivial, rfl⟩ | exact ⟨rfl, (by simp only [go_sem, envL, envLGo, ↓reduceIte]), rfl⟩) : Sub G N σ τ := Sub.cvh h h2 h1 h4 h5
theorem cd {α : Type} {c : Operand} {x y : Code} {Q : Post} {b : Bool} {m1 m2 : α} {r : α} (h : cond b m1 m2 = r) (h1 : m1 = r → AWp P G ro N x σ Q) (h2 : m2 = r → AWp P G ro N y σ Q) (hc : σ.eval c = .d (.bool b) := by rfl) : AWp P G ro N (.cond c x y) σ Q :=
  AWp.cond hc (fun hb => h1 (by rw [hb] at h; exact h)) (fun hb => h2 (by rw [hb] at h; exact h))
theorem cdf {c : Operand} {x y : Code} {Q : Post} (h1 : AWp P G ro N y σ Q) (hc : σ.eval c = .d (.bool false) := by rfl) : AWp P G ro N (.cond c x y) σ Q := AWp.cond hc (fun hb => by cases hb) (fun _ => h1)
theorem lp {S X : Type} {c : Code} {Q : Post} (ks rs : List Nat) (e : S → List (Nat × PV) → List (Nat × PV)) (H : S → Heap → Heap) {e0 : List (Nat × PV)} {h0 : Heap} {f : S → Option (S ⊕ X)} {s0 : S} {x : X}
    (hi : iter f s0 = some x) (hs : Sub G N σ ⟨e s0 e0, H s0 h0, σ.dfr, σ.gh⟩)
    (h : ∀ s o, f s = some o → AWp P G ro N c ⟨e s e0, H s h0, σ.dfr, σ.gh⟩ (Post.then (fun σ' => ∃ s', o = .inl s' ∧ Sub G N σ' ⟨e s' e0, H s' h0, σ.dfr, σ.gh⟩) (fun ex σ' => ∃ y, o = .inr y ∧ (y = x → Q ex σ'))))
    (he : kenv ks σ.env = e0 := by (simp only [kenv, eget, ↓reduceIte, Nat.reduceEqDiff]; rfl)) (hh : kheap rs σ.heap = h0 := by (simp only [kheap, hget, hget_dyn, ↓reduceIte, Nat.reduceEqDiff, Nat.reduceLT]; rfl)) : AWp P G ro N (.loop c) σ Q := by
  obtain ⟨n, hn⟩ := iter_some hi
  refine AWp.loopI (fun i : Nat × S => ⟨e i.2 e0, H i.2 h0, σ.dfr, σ.gh⟩) (fun i => iterN f i.1 i.2 = some x) (fun i => i.1) (n, s0) hn hs ?_
  rintro ⟨n, s⟩ hn
  cases n with
  | zero => cases hn
  | succ n =>
    rw [iterN_succ] at hn
    obtain ⟨o, h1, h2⟩ := bind_some hn
    refine (h s o h1).mono fun ex σ' hp => ?_
    cases ex with
    | normal => obtain ⟨s', rfl, h4⟩ := hp; exact ⟨(n, s'), h2, Nat.lt_succ_self n, h4⟩
    | _ => obtain ⟨y, rfl, h4⟩ := hp; exact h4 (by simpa using h2)
theorem jm {α ι ρ : Type} {x y : Code} {Q : Post} (ks rs : List Nat) (e : ι → List (Nat × PV) → List (Nat × PV)) (H : ι → Heap → Heap) {e0 : List (Nat × PV)} {h0 : Heap} {m : Option α} {f : α → Option ρ} {r : ρ} (inj : ι → α) (h : m.bind f = some r)
    (h1 : ∀ o, m = some o → f o = some r → AWp P G ro N x σ (Post.then (fun σ' => ∃ i, o = inj i ∧ Sub G N σ' ⟨e i e0, H i h0, σ.dfr, σ.gh⟩) Q)) (h2 : ∀ i, f (inj i) = some r → AWp P G ro N y ⟨e i e0, H i h0, σ.dfr, σ.gh⟩ Q)
    (he : kenv ks σ.env = e0 := by (simp only [kenv, eget, ↓reduceIte, Nat.reduceEqDiff]; rfl)) (hh : kheap rs σ.heap = h0 := by (simp only [kheap, hget, hget_dyn, ↓reduceIte, Nat.reduceEqDiff, Nat.reduceLT]; rfl)) : AWp P G ro N (.seq x y) σ Q := by
  obtain ⟨o, h3, h4⟩ := bind_some h
  exact AWp.seqI (fun i => ⟨e i e0, H i h0, σ.dfr, σ.gh⟩) (fun i => o = inj i) (h1 o h3 h4) (fun i hi => h2 i (hi ▸ h4))
theorem jn {α ρ : Type} {x y : Code} {Q : Post} (ks rs : List Nat) (e : α → List (Nat × PV) → List (Nat × PV)) (H : α → Heap → Heap) {e0 : List (Nat × PV)} {h0 : Heap} {m : Option α} {f : α → Option ρ} {r : ρ} (h : m.bind f = some r)
    (h1 : ∀ o, m = some o → AWp P G ro N x σ (Post.then (fun σ' => Sub G N σ' ⟨e o e0, H o h0, σ.dfr, σ.gh⟩) Q)) (h2 : ∀ o, f o = some r → AWp P G ro N y ⟨e o e0, H o h0, σ.dfr, σ.gh⟩ Q)
    (he : kenv ks σ.env = e0 := by (simp only [kenv, eget, ↓reduceIte, Nat.reduceEqDiff]; rfl)) (hh : kheap rs σ.heap = h0 := by (simp only [kheap, hget, hget_dyn, ↓reduceIte, Nat.reduceEqDiff, Nat.reduceLT]; rfl)) : AWp P G ro N (.seq x y) σ Q :=
  jm ks rs e H id h (fun o h3 _ => (h1 o h3).mono fun ex σ' hp => by cases ex <;> first | exact ⟨o, rfl, hp⟩ | exact hp) h2 he hh
theorem ln {S X : Type} {T : S → St} {p : S} {q : S ⊕ X} (h : some (.inl p) = some q) (hs : Sub G N σ (T p)) : ∃ s', q = .inl s' ∧ Sub G N σ (T s') := ⟨p, (Option.some.inj h).symm, hs⟩
theorem lx {S X : Type} {y x : X} {q : S ⊕ X} {R : Prop} (h : some (.inr y) = some q) (hq : y = x → R) : ∃ y', q = .inr y' ∧ (y' = x → R) := ⟨y, (Option.some.inj h).symm, hq⟩
theorem bt (b : Bool) : b = true ∨ b = false := Bool.eq_false_or_eq_true b
end
end Go.Pv

namespace Go.Pv
open Go.Sort
theorem heap_grow (w : World) (os : Array Obj) {b : Nat} (h : b < w.heap.size) : (grow w os).heap[b]? = w.heap[b]? := by
  simp [grow, Array.getElem?_append, h]
theorem heap_putRow {α : Type} [Inhabited α] (enc : α → Value) (w : World) (blk off : Nat) (d : Array α) (b : Nat) : (putRow enc w blk off d).heap[b]? = if b = blk then (w.heap[b]?).map (onCells (putCells enc off d)) else w.heap[b]? := by
  simp only [putRow, mapBlock, Array.getElem?_modify]
  by_cases h : b = blk
  · subst h; simp
  · simp [h, Ne.symm h]
theorem Sit.putRow {P : Program} {G : List (Nat × PD)} {B : Base P} {w : World} {φ : Nm} {r e : Nat} {g : Gh} {α : Type} [Inhabited α] {enc : α → Value} {pd : α → PD} (hrep : ∀ (w : World) (ok : Nat → Nat → Prop) x, RepD w ok (enc x) (pd x)) (hflat : ∀ x, flat (enc x) = true)
    {L L' : List α} (hro : B.ro = none) (hs : Sit G B w φ [(r, ⟨e, 1, dl (lenc pd L)⟩)] g) (hl : L'.length = L.length) {b : Nat} (hb : φ r = some b) (n : Nat) (os : Array Obj) (hnb : ∀ x, isByte (.d (pd x)) = false := by exact fun _ => rfl) :
    Sit G B (grow (Sort.putRow enc (Sort.ahead w n) b 0 L'.toArray) os) φ [(r, ⟨e, 1, dl (lenc pd L')⟩)] g := by
  have hx : hget ([(r, ⟨e, 1, dl (lenc pd L)⟩)] : Heap) r = some ⟨e, 1, dl (lenc pd L)⟩ := by simp [hget]
  have hr : Rep G B 0 ⟨[], [(r, ⟨e, 1, dl (lenc pd L)⟩)], [], g⟩ { tmps := #[], defers := [] } w φ := by
    refine Rep.of_sit hs rfl (fun t => .any _) ?_
    rw [B.hheld hro]; exact .nil
  have hlt := hr.heap.lt hx hb
  have e1 : grow (Sort.putRow enc (Sort.ahead w n) b 0 L'.toArray) os = Sort.putRow enc (grow (Sort.ahead w n) os) b 0 L'.toArray := (putRow_grow enc (Sort.ahead w n) os b 0 L'.toArray hlt).symm
  rw [e1]
  have hsz : w.heap.size ≤ (grow (Sort.ahead w n) os).heap.size := by simp [grow, Sort.ahead]
  have hold : ∀ c, c < w.heap.size → (grow (Sort.ahead w n) os).heap[c]? = w.heap[c]? := fun c h => heap_grow (Sort.ahead w n) os h
  have hr1 : Rep G B 0 ⟨[], [(r, ⟨e, 1, dl (lenc pd L)⟩)], [], g⟩ { tmps := #[], defers := [] } (grow (Sort.ahead w n) os) φ :=
    hr.world (ext_more hsz hold (fun s x c h1 h2 => hr.heap.lt h1 h2)) ⟨rfl, rfl, rfl, hsz, fun c h _ => hold c h⟩ (fun s x c h1 h2 => hold c (hr.heap.lt h1 h2)) (fun c h _ => hold c h)
  obtain ⟨c, C, z, h1, h2, h3, hz⟩ := (hr1.heap.rows r _ b hx hb).here (Nat.le_refl 1)
  have hz0 : z = 0 := hz.zero_of fun p hp => by simp only [dl, lenc, List.mem_map] at hp; obtain ⟨_, ⟨x, _, rfl⟩, rfl⟩ := hp; exact hnb x
  subst hz0
  have hll : (dl (lenc pd L)).length = L.length := by simp [dl, lenc]
  have hw := hr1.write (hk1 := Nat.le_refl 1) (w' := Sort.putRow enc (grow (Sort.ahead w n) os) b 0 L'.toArray) (c' := putCells enc 0 L'.toArray c) hx hb (els := dl (lenc pd L')) (by simp [dl, lenc, hl]) h1 (by rw [heap_putRow, if_pos rfl, h1]; rfl) (.zero _) (by simp [putCells])
    ⟨rfl, rfl, rfl, by simp, fun k _ hk => by rw [heap_putRow, if_neg hk]⟩ (by simp) (fun i hi => by
      have hi' : i < L'.length := by simpa [dl, lenc] using hi
      have hcs : i < c.size := by
        have := h2.1; have := h2.2.1
        rw [hll] at this
        dsimp only at *
        omega
      refine ⟨enc L'[i], ?_, by rw [flat_cells (hflat _)]; rfl, fun j hj => ?_⟩
      · have e2 : (dl (lenc pd L'))[i] = .d (pd L'[i]) := by simp [dl, lenc]
        rw [e2]; exact .d (hrep _ _ _)
      · have hj0 : j = 0 := by dsimp only at hj; omega
        subst hj0
        rw [flat_cells (hflat _)]
        refine ⟨?_, hflat _⟩
        simp [putCells, Array.getElem?_mapIdx, hcs, hi', Array.getD])
  have e3 : hput ([(r, ⟨e, 1, dl (lenc pd L)⟩)] : Heap) r ⟨e, 1, dl (lenc pd L')⟩ = [(r, ⟨e, 1, dl (lenc pd L')⟩)] := by simp [hput]
  have := hw.sit
  dsimp only at this
  rw [e3] at this
  exact this
theorem Sit.holds {P : Program} {G : List (Nat × PD)} {B : Base P} {w : World} {φ : Nm} {r e : Nat} {g : Gh} {α : Type} [Inhabited α] {enc : α → Value} {pd : α → PD} (hun : ∀ (w : World) (X : Nat → Nat → Prop) (φ : Nm) (H : Heap) v x, RepV w X φ H v (.d (pd x)) → v = enc x) (hflat : ∀ x, flat (enc x) = true)
    {L : List α} (hs : Sit G B w φ [(r, ⟨e, 1, dl (lenc pd L)⟩)] g) {b : Nat} (hb : φ r = some b) (hnb : ∀ x, isByte (.d (pd x)) = false := by exact fun _ => rfl) : Holds enc w b 0 L.toArray ∧ b < w.heap.size := by
  have hx : hget ([(r, ⟨e, 1, dl (lenc pd L)⟩)] : Heap) r = some ⟨e, 1, dl (lenc pd L)⟩ := by simp [hget]
  obtain ⟨c, C, z, h1, h2, h3, hz⟩ := (hs.heap.rows r _ b hx hb).here (Nat.le_refl 1)
  have hz0 : z = 0 := hz.zero_of fun p hp => by simp only [dl, lenc, List.mem_map] at hp; obtain ⟨_, ⟨x, _, rfl⟩, rfl⟩ := hp; exact hnb x
  subst hz0
  refine ⟨fun j hj => ?_, (Array.getElem?_eq_some_iff.1 h1).1⟩
  have hj' : j < L.length := by simpa using hj
  obtain ⟨v, hv, hs1, hv2⟩ := h3 j (by simpa [dl, lenc] using hj')
  have e2 : (dl (lenc pd L))[j]'(by simpa [dl, lenc] using hj') = .d (pd L[j]) := by simp [dl, lenc]
  rw [e2] at hv
  have := hun _ _ _ _ _ _ hv
  subst this
  have hc := (hv2 0 Nat.one_pos).1
  rw [flat_cells (hflat _)] at hc
  have hc : c[j]? = some (enc L[j]) := by simpa [Array.getD] using hc
  refine ⟨?_, ?_⟩
  · simp [World.cell?, h1, hc, hj']
  · simp [World.frozen?, h1]
end Go.Pv

namespace Go.Pv
section
variable {P : Program} {G : List (Nat × PD)} {ro : Option Nat} {N : Nat} {ops : Array Oper} {σ τ σ' : St} {o : Oper} {rest : List Oper}
def HandFn (P : Program) (G : List (Nat × PD)) (f : FuncId) (args : List PV) (i e k : Nat) (l : List PD) (res : PV) (l' : List PD) : Prop :=
  Fn P G f args [(i, ⟨e, k, dl l⟩)] fun p K => p = res ∧ K = [(i, ⟨e, k, dl l'⟩)] ∧ l'.length = l.length
theorem hget1 {i s : Nat} {x y : Row} (h : hget [(i, x)] s = some y) : s = i ∧ y = x := by
  simp only [hget] at h
  split at h
  · rename_i e; simp only [Option.some.injEq] at h; exact ⟨e.symm, h.symm⟩
  · cases h
def NewFn (P : Program) (G : List (Nat × PD)) (f : FuncId) (args : List PV) (res : Nat → PV) (e k : Nat) (l : List PD) : Prop :=
  Fn P G f args [] fun p K => ∃ q, 1000 ≤ q ∧ p = res q ∧ K = [(q, ⟨e, k, dl l⟩)]
theorem NewFn.pf {f : FuncId} {fn : Func} {c : Code} {args : List PV} {n : Nat} {e0 : List (Nat × PV)} {res : Nat → PV} {e k : Nat} {l : List PD} (hf : P.funcs[f]? = some fn) (hn : fn.ntmps = n)
    (h : AWp P G none n c ⟨e0, [], [], none⟩ (Fin P G fn fun p K => ∃ q, 1000 ≤ q ∧ p = res q ∧ hget K q = some ⟨e, k, dl l⟩)) (hb : fn.body = some c := by rfl) (hN : args.length ≤ n := by simp)
    (he : argEnv 0 args = e0 := by (simp only [argEnv, Nat.reduceAdd, Nat.zero_add]; rfl)) (hrf : ∀ q x, refsIn [(q, x)] (res q) := by (intro q x; simp only [go_sem, hget, ↓reduceIte, Option.isSome_some]; done)) : NewFn P G f args res e k l := by
  subst hn he
  intro B φ vs h0 h1 h2 h3
  refine (Fn.intro hf hb hN h B φ vs h0 h1 h2 h3).mono ?_
  rintro e' w' ⟨v, p, H', g', φ', he, ⟨q, hq, rfl, hg⟩, hv, hs⟩
  have hle : ∀ r x, hget [(q, (⟨e, k, dl l⟩ : Row))] r = some x → hget H' r = some x := fun r x hx => by
    obtain ⟨rfl, rfl⟩ := hget1 hx; exact hg
  exact ⟨v, _, [(q, ⟨e, k, dl l⟩)], g', φ', he, ⟨q, hq, rfl, rfl⟩, hv.less hle (hrf q _), hs.less hle (fun r x hx => by rw [(hget1 hx).2]; exact row_refs _ _)⟩
end
end Go.Pv

namespace Go.Pv
@[irreducible] def sortI (l : List Int) : List Int := l.mergeSort fun x y => decide (x ≤ y)
@[irreducible] def compactI (l : List Int) : List Int := Go.Lib.compact l
@[go_sem] theorem sortI_length (l : List Int) : (sortI l).length = l.length := by unfold sortI; exact List.length_mergeSort l
end Go.Pv

namespace Go.Pv
section
variable {P : Program} {G : List (Nat × PD)} {ro : Option Nat} {N : Nat} {σ : St} {o : Oper} {K : St → Prop}
theorem hput_self : ∀ {H : Heap} {r : Nat} {x : Row}, hget H r = some x → hput H r x = H
  | [], _, _, h => by simp [hget] at h
  | (s, y) :: l, r, x, h => by
    simp only [hget] at h
    simp only [hput]
    split at h
    · rename_i e; simp only [Option.some.injEq] at h; subst h; rw [if_pos e, e]
    · rename_i e; rw [if_neg e, hput_self h]
theorem three {k n m : Nat} {cur news : List Value} (h1 : n * k ≤ cur.length) (h2 : news.length = m * k) (i j : Nat) (hj : j < k) :
    (cur.take (n * k) ++ news ++ cur.drop (n * k + news.length))[i * k + j]? = if i < n then cur[i * k + j]? else if i < n + m then news[(i - n) * k + j]? else cur[i * k + j]? := by
  have hl : (cur.take (n * k)).length = n * k := by simp; omega
  by_cases hi : i < n
  · rw [if_pos hi]
    have hm := Nat.mul_le_mul_right k (show i + 1 ≤ n from hi)
    rw [Nat.add_mul, Nat.one_mul] at hm
    rw [List.append_assoc, List.getElem?_append_left (by omega), List.getElem?_take, if_pos (by omega)]
  · rw [if_neg hi]
    have hge := Nat.mul_le_mul_right k (show n ≤ i by omega)
    by_cases hi2 : i < n + m
    · rw [if_pos hi2]
      have hm := Nat.mul_le_mul_right k (show i - n + 1 ≤ m by omega)
      rw [Nat.add_mul, Nat.one_mul] at hm
      have hsub : (i - n) * k = i * k - n * k := Nat.sub_mul _ _ _
      rw [List.append_assoc, List.getElem?_append_right (by omega), hl, List.getElem?_append_left (by omega)]
      congr 1; omega
    · rw [if_neg hi2]
      have hm := Nat.mul_le_mul_right k (show n + m ≤ i by omega)
      rw [Nat.add_mul] at hm
      rw [List.getElem?_append_right (by simp only [List.length_append, hl]; omega), List.getElem?_drop]
      congr 1
      simp only [List.length_append, hl]; omega
theorem headOk.over {z n : Nat} {l m : List PV} (h : headOk z l) (hn : z ≤ n) {k : Nat} : headOk z (l.take n ++ m ++ l.drop k) := fun i hi => by
  obtain ⟨p, h1, h2⟩ := h i hi
  have hl := (List.getElem?_eq_some_iff.1 h1).1
  exact ⟨p, by rw [List.append_assoc, List.getElem?_append_left (by simp; omega), List.getElem?_take, if_pos (by omega)]; exact h1, h2⟩
theorem headOk.zero_first {z : Nat} {l : List PV} (h : headOk z l) (hn : ∀ p, l[0]? = some p → isByte p = false) : z = 0 := by
  rcases Nat.eq_zero_or_pos z with rfl | hz
  · rfl
  · obtain ⟨p, h1, h2⟩ := h 0 hz
    rw [hn p h1] at h2; cases h2
theorem headOk.of_first {z n : Nat} {l : List PV} (h : headOk z l) (hn : ∀ p, l[0]? = some p → isByte p = false) (_ : 0 ≤ n) : z ≤ n := by
  rw [h.zero_first hn]; exact Nat.zero_le _
theorem first_dl {α : Type} {f : α → PD} {L : List α} (h : ∀ x, isByte (.d (f x)) = false) : ∀ p, (dl (lenc f L))[0]? = some p → isByte p = false := fun p hp => by
  cases L with
  | nil => simp [dl, lenc] at hp
  | cons x L => simp [dl, lenc] at hp; rw [← hp]; exact h x
theorem Rep.over {B : Base P} {a : Act} {w : World} {φ : Nm} (hr : Rep G B N σ a w φ) {r b : Nat} {x : Row} (hx : hget σ.heap r = some x) (hb : φ r = some b) (hk1 : 1 ≤ x.k) {cur : Array Value} {zf : Nat} (hc : w.heap[b]? = some (.cells cur x.e (0, zf))) {n : Nat} (hzf : headOk zf x.els) (hzn : zf ≤ n) {L : List PV} {news : List Value}
    (hn : n + L.length ≤ x.els.length) (hl : news.length = L.length * x.k)
    (hL : ∀ i (hi : i < L.length), ∃ v, RepV w B.X φ σ.heap v L[i] ∧ v.cells.size = x.k ∧ ∀ j, j < x.k → news[i * x.k + j]? = some (v.cells.getD j undef) ∧ flat (v.cells.getD j undef) = true) :
    Rep G B N { σ with heap := hput σ.heap r { x with els := x.els.take n ++ L ++ x.els.drop (n + L.length) } } a (w.setRow b (cur.toList.take (n * x.k) ++ news ++ cur.toList.drop (n * x.k + news.length)).toArray) φ := by
  obtain ⟨c, C, _, h1, h2, h3, _⟩ := (hr.heap.rows r x b hx hb).here hk1
  rw [hc] at h1; simp only [Option.some.injEq, Obj.cells.injEq, true_and, Prod.mk.injEq] at h1; obtain ⟨rfl, -⟩ := h1
  have hCm := Nat.mul_le_mul_right x.k (show n + L.length ≤ C by have := h2.2.1; omega)
  rw [Nat.add_mul] at hCm
  have hcl : cur.toList.length = C * x.k := by simpa using h2.1
  refine hr.write hx hb hk1 (by simp; omega) hc (setRow_heap w b cur _ x.e _ hc) (hzf.over hzn) (by simp; omega) ⟨rfl, rfl, rfl, by simp, fun y _ hy => setRow_other w b y _ hy⟩ (size_setRow _ _ _) fun i hi => ?_
  have hi' : i < x.els.length := by simp at hi; omega
  have hcell : ∀ j, j < x.k → (cur.toList.take (n * x.k) ++ news ++ cur.toList.drop (n * x.k + news.length)).toArray[i * x.k + j]? = if i < n then cur[i * x.k + j]? else if i < n + L.length then news[(i - n) * x.k + j]? else cur[i * x.k + j]? := fun j hj => by
    have := three (k := x.k) (n := n) (m := L.length) (cur := cur.toList) (news := news) (by omega) hl i j hj
    simpa using this
  by_cases hin : i < n
  · obtain ⟨v, h4, h5, h6⟩ := h3 i hi'
    refine ⟨v, ?_, h5, fun j hj => ⟨?_, (h6 j hj).2⟩⟩
    · have e : (x.els.take n ++ L ++ x.els.drop (n + L.length))[i] = x.els[i] := by
        rw [List.getElem_append_left (by simp; omega), List.getElem_append_left (by simp; omega)]; simp
      rw [e]; exact h4
    · rw [hcell j hj, if_pos hin]; exact (h6 j hj).1
  · by_cases hin2 : i < n + L.length
    · obtain ⟨v, h4, h5, h6⟩ := hL (i - n) (by omega)
      refine ⟨v, ?_, h5, fun j hj => ⟨?_, (h6 j hj).2⟩⟩
      · have e : (x.els.take n ++ L ++ x.els.drop (n + L.length))[i] = L[i - n]'(by omega) := by
          rw [List.getElem_append_left (by simp; omega), List.getElem_append_right (by simp; omega)]
          congr 1; simp; omega
        rw [e]; exact h4
      · rw [hcell j hj, if_neg hin, if_pos hin2]; exact (h6 j hj).1
    · obtain ⟨v, h4, h5, h6⟩ := h3 i hi'
      refine ⟨v, ?_, h5, fun j hj => ⟨?_, (h6 j hj).2⟩⟩
      · have e : (x.els.take n ++ L ++ x.els.drop (n + L.length))[i] = x.els[i] := by
          rw [List.getElem_append_right (by simp; omega), List.getElem_drop]
          congr 1; simp; omega
        rw [e]; exact h4
      · rw [hcell j hj, if_neg hin, if_neg hin2]; exact (h6 j hj).1
theorem OpT.clear {s : Operand} {t e : TypeId} {y z : Ty} {zv : Value} {zp : PV} {r lo n : Nat} {row : Row} (ho : o.op = .call { callee := .builtin .clear, args := #[s], argTypes := #[t] })
    (ht : tyOf P t = some y) (hde : y.desc = .slice e) (he : tyOf P e = some z) (hz : z.zero = some zv) (hzp : ofZero zv = some zp) (hzs : zv.cells.size = z.size) (hk : 1 ≤ z.size)
    (hs : σ.eval s = .slc r lo n) (hx : hget σ.heap r = some row) (hrk : row.k = z.size) (hdst : o.dst = none) (hnb : ∀ p, row.els[0]? = some p → isByte p = false := by exact first_dl (fun _ => rfl))
    (hK : K { σ with heap := hput σ.heap r { row with els := row.els.take lo ++ List.replicate n zp ++ row.els.drop (lo + n) } }) : OpT P G ro N o σ K := by
  intro B hro a w φ hr next Q hnx
  have hsv := hr.eval s
  rw [hs] at hsv
  obtain ⟨hu, it, hit, hs1, hs2, hs3⟩ := tyOf_parts he
  have hut : P.underlying t = some (.slice e) := by rw [(tyOf_parts ht).1, hde]
  have hop : ∀ v' w', (Builtin.clear_ #[t] o.type #[a.eval s]).run P w = .ok v' w' → (o.semAt ro a.eval).run P w = .ok (.value v') w' := by
    intro v' w' h
    rw [Oper.semAt_eq _ _ _ (fun c hc => by rw [ho] at hc; cases hc)]
    simp only [execOp, ho, resolve, invoke, builtin, Sem.run_bind, Sem.run_pure, Result.andThen_ok, List.map_toArray, List.map_cons, List.map_nil, h]
  have hput0 : ∀ {τ : St} {w' : World} {u : Value}, Rep G B N τ a w' φ → Rep G B N τ (a.put o.dst u) w' φ := fun h => by rw [hdst]; exact h
  by_cases hn0 : n = 0
  · subst hn0
    have hself : hput σ.heap r { row with els := row.els.take lo ++ List.replicate 0 zp ++ row.els.drop (lo + 0) } = σ.heap := by
      have : row.els.take lo ++ List.replicate 0 zp ++ row.els.drop (lo + 0) = row.els := by simp
      rw [this]; exact hput_self hx
    rw [hself] at hK
    have hrun : (Builtin.clear_ #[t] o.type #[a.eval s]).run P w = .ok (.tuple #[]) w := by
      rcases repV_slc hsv with ⟨⟨p0, h1, _⟩, _⟩ | ⟨_, _, cap, h1, _⟩
      · rw [h1]; cases p0 <;> simp [Builtin.clear_, run_underlying hut]
      · rw [h1]; simp [Builtin.clear_, run_underlying hut]
    exact wpIn_value (hop _ _ hrun) (hnx _ _ _ φ hK (hput0 hr))
  · rcases repV_slc hsv with ⟨_, _, h4, _⟩ | ⟨x2, b, cap, h3, hx2, hb, hn, hc, hl, hzz⟩
    · exact absurd h4 hn0
    · rw [hx] at hx2; simp only [Option.some.injEq] at hx2; subst hx2
      obtain ⟨cur, C, zf, h1, h2, h3', hzf⟩ := (hr.heap.rows r row b hx hb).here (repV_slc_pos hsv hx)
      have hsz := hzz _ _ _ h1
      obtain ⟨hz1, hz2⟩ := ofZero_ok (w := w) (X := B.X) (φ := φ) (H := σ.heap) hzp
      obtain ⟨news, hnw⟩ : ∃ news, news = (madeCells zv.cells (n * z.size)).toList := ⟨_, rfl⟩
      have hnl : news.length = n * z.size := by rw [hnw]; simp [size_madeCells]
      have hng : ∀ i j, i < n → j < z.size → news[i * z.size + j]? = some (zv.cells.getD j undef) := fun i j hi hj => by
        rw [hnw]
        have := madeCells_get (z := zv.cells) (k := z.size) (n := n) (i := i) (j := j) hzs hj hi
        simpa using this
      have hnf : ∀ u ∈ news, u.oneCell' = true := fun u hu => by
        obtain ⟨q, hq, rfl⟩ := List.getElem_of_mem hu
        have hq' : q < n * z.size := hnl ▸ hq
        have e1 := hng (q / z.size) (q % z.size) (Nat.div_lt_of_lt_mul (by rw [Nat.mul_comm]; exact hq')) (Nat.mod_lt _ hk)
        rw [show q / z.size * z.size + q % z.size = q by rw [Nat.mul_comm]; exact Nat.div_add_mod q z.size, List.getElem?_eq_getElem hq, Option.some.injEq] at e1
        rw [e1]; exact hz2 _ (by rw [hzs]; exact Nat.mod_lt _ hk)
      have hzc : (Builtin.zeroCells zv.cells n).toList = news := by
        rw [hnw]; simp [Builtin.zeroCells, madeCells, hzs]
      have hfit : lo * row.k + news.length ≤ cur.size := by
        rw [hnl, hrk, ← Nat.add_mul, hsz, hrk]; exact Nat.mul_le_mul_right _ (by omega)
      have hst := run_storeCells_atF P b (lo * row.k) row.e (0, zf) news 0 cur w h1 (by rw [(hzf.zero_first hnb)]; exact Nat.zero_le _) (by simpa using hfit) hnf
      simp only [Nat.add_zero] at hst
      have hrun : (Builtin.clear_ #[t] o.type #[a.eval s]).run P w = .ok (.tuple #[]) (w.setRow b (cur.toList.take (lo * row.k) ++ news ++ cur.toList.drop (lo * row.k + news.length)).toArray) := by
        obtain ⟨m, rfl⟩ : ∃ m, n = m + 1 := ⟨n - 1, by omega⟩
        rw [h3]
        have hzr := run_tyZero he hz
        simp [Builtin.clear_, run_underlying hut, hzr, hzc, hst]
      have hrep := hr.over hx hb (repV_slc_pos hsv hx) h1 hzf (hzf.of_first hnb (by omega)) (n := lo) (L := List.replicate n zp) (news := news) (by simpa using hn) (by rw [hrk]; simpa using hnl) (fun i hi => by
        have hi' : i < n := by simpa using hi
        refine ⟨zv, by simpa using hz1, by rw [hrk]; exact hzs, fun j hj => ?_⟩
        rw [hrk] at hj ⊢
        exact ⟨hng i j hi' hj, hz2 j (by rw [hzs]; exact hj)⟩)
      rw [List.length_replicate] at hrep
      exact wpIn_value (hop _ _ hrun) (hnx _ _ _ φ hK (hput0 hrep))
theorem run_bound {P : Program} {w : World} {k : IntKind} {n : Int} {y : Nat} (h0 : 0 ≤ n) (h1 : n ≤ y) (c : BoundsCode) : (Instr.sliceBound (.int k n) y c).run P w = .ok n.toNat w := by
  simp [Instr.sliceBound, asIntOf, h0, h1]
theorem OpT.sliceEnd {x lo : Operand} {t e : TypeId} {y z : Ty} {r l0 n : Nat} {k1 : IntKind} (ho : o.op = .slice t x (some lo) none none) (ht : tyOf P t = some y) (hde : y.desc = .slice e) (he : tyOf P e = some z)
    (hx : σ.eval x = .slc r l0 n) (h1 : σ.eval lo = .d (.int k1 n)) (hd : dstOk N o.dst) (k : Nat) (hK : K (σ.put o.dst (.d (.imm k [])))) : OpT P G ro N o σ K := by
  intro B hro a w φ hr next Q hnx
  have hv := hr.eval x
  rw [hx] at hv
  have v1 := hr.eval lo; rw [h1] at v1
  have hs : ∃ p cap, a.eval x = .slice p n cap ∧ n ≤ cap ∧ (p = none → n = 0 ∧ cap = 0) ∧ ∀ q, p = some q → q.spot = none := by
    rcases repV_slc hv with ⟨⟨p, e1, e3⟩, _, e2, _⟩ | ⟨_, b, cap, e1, _, _, _, e2, _⟩
    · exact ⟨p, 0, by rw [e1, e2], by omega, fun _ => ⟨e2, rfl⟩, e3⟩
    · exact ⟨_, cap, e1, e2, (by intro h; cases h), (by intro q hq; cases hq; rfl)⟩
  obtain ⟨p, cap, e1, e2, e3, e4⟩ := hs
  have hrun : (Instr.sliceAt t (a.eval x) (some (a.eval lo)) none none).run P w = .ok (.slice (if cap = n then p else p.map (·.add (n * z.size))) 0 (cap - n)) w := by
    rw [e1, repV_int v1]
    simp only [Instr.sliceAt, Sem.run_bind, run_tyUnder ht, Result.andThen, hde, Instr.slice, Instr.sliceBounds, Option.isSome_none, run_bound (k := k1) (n := (n : Int)) (y := n) (by omega) (by omega), Sem.run_pure, run_tySize he, Int.toNat_natCast, Bool.false_eq_true, if_false, Nat.sub_self]
  refine wpIn_value (u := .slice (if cap = n then p else p.map (·.add (n * z.size))) 0 (cap - n)) ?_ (hnx _ _ _ φ hK (hr.put hd (.d ?_)))
  · rw [Oper.semAt_eq _ _ _ (fun c hc => by rw [ho] at hc; cases hc)]
    simp only [execOp, ho, Option.map_some, Option.map_none]
    exact run_v hrun
  · cases p with
    | none =>
      obtain ⟨h8, h9⟩ := e3 rfl
      subst h8 h9
      simp only [Option.map_none, ite_self, Nat.sub_self]
      exact .imm0 k
    | some q =>
      obtain ⟨qb, qo, qs⟩ := q
      have := e4 _ rfl
      dsimp only at this
      subst this
      rw [Option.map_some, add_eq]
      split
      · exact .imm (fun _ => undef) (fun _ => rfl) (fun h => absurd rfl h) rfl (by omega) (fun i hi => by simp at hi) (fun i hi => by simp at hi) (fun i hi => by simp at hi) (fun i hi => by simp at hi) (fun i hi => by simp at hi)
      · exact .imm (fun _ => undef) (fun _ => rfl) (fun h => absurd rfl h) rfl (by omega) (fun i hi => by simp at hi) (fun i hi => by simp at hi) (fun i hi => by simp at hi) (fun i hi => by simp at hi) (fun i hi => by simp at hi)
theorem OpX.sliceEnd {xs : Exc} {K : Foot → St → Prop} {x lo : Operand} {t e : TypeId} {y z : Ty} {r l0 n : Nat} {k1 : IntKind} (ho : o.op = .slice t x (some lo) none none) (ht : tyOf P t = some y) (hde : y.desc = .slice e) (he : tyOf P e = some z)
    (hx : σ.eval x = .slc r l0 n) (h1 : σ.eval lo = .d (.int k1 n)) (hd : dstOk N o.dst) (k : Nat) (hxs : exE xs (dstEff o.dst (.d (.imm k [])))) (hK : K (some (tmpKeys (opnds o.op) ++ rowKeys σ (opnds o.op), dstKeys o.dst)) (σ.put o.dst (.d (.imm k [])))) : OpX P G ro N xs o σ K := by
  refine ⟨some (tmpKeys (opnds o.op) ++ rowKeys σ (opnds o.op), dstKeys o.dst), σ.put o.dst (.d (.imm k [])), ⟨dstEff o.dst (.d (.imm k [])), fun k hk => by rw [ekeys_dst] at hk; exact hk, hxs, fun σ' hd' hs _ => ?_, look_put _ _ _, St.put_rest _ _ _⟩, hK⟩
  have ha := eval_agree (σ := σ) (σ' := σ') (l := opnds o.op) fun k hk => hs k (List.mem_append_left _ hk)
  rw [ho] at ha
  have m1 : x ∈ opnds (.slice t x (some lo) none none) := by simp [opnds, optOp]
  have m2 : lo ∈ opnds (.slice t x (some lo) none none) := by simp [opnds, optOp]
  exact OpT.sliceEnd ho ht hde he (by rw [ha _ m1]; exact hx) (by rw [ha _ m2]; exact h1) hd k ⟨by rw [St.put_rest]; exact hd', look_put _ _ _⟩
variable {ops : Array Oper} {rest : List Oper} {σ' : St}
theorem on {Q : St → Prop} (h : ∀ K : St → Prop, (∀ σ, AOps P G ro N ops rest σ Q → K σ) → OpT P G ro N o σ K) (hd : dstOk N o.dst := by (simp only [go_sem, ↓reduceIte]; done))
    (hg : ∀ {K : St → Prop}, OpT P G ro N o σ K → vcOpC P G ro N (dsts ops) o σ K := by (intro K k; simp (disch := omega) only [go_sem, ↓reduceIte]; exact k)) : AOps P G ro N ops (o :: rest) σ Q :=
  AOps.consC hd fun K hK => hg (h K hK)
theorem HandFn.pf {f : FuncId} {fn : Func} {c : Code} {args : List PV} {n : Nat} {e0 : List (Nat × PV)} {i e k : Nat} {l l' : List PD} {res : PV} (hf : P.funcs[f]? = some fn) (hn : fn.ntmps = n) (hl : l'.length = l.length)
    (h : AWp P G none n c ⟨e0, [(i, ⟨e, k, dl l⟩)], [], none⟩ (Fin P G fn fun p K => p = res ∧ K = [(i, ⟨e, k, dl l'⟩)])) (hb : fn.body = some c := by rfl) (hN : args.length ≤ n := by simp)
    (he : argEnv 0 args = e0 := by (simp only [argEnv, Nat.reduceAdd, Nat.zero_add]; rfl)) : HandFn P G f args i e k l res l' := by
  subst hn he
  intro B φ vs h0 h1 h2 h3
  refine (Fn.intro hf hb hN h B φ vs h0 h1 h2 h3).mono ?_
  rintro e' w' ⟨v, p, H', g', φ', he, ⟨rfl, rfl⟩, hv, hs⟩
  exact ⟨v, _, _, g', φ', he, ⟨rfl, rfl, hl⟩, hv, hs⟩
variable {τ : St}
end
end Go.Pv

namespace Go.Pv
section
variable {P : Program} {G : List (Nat × PD)} {ro : Option Nat} {N : Nat} {σ σ' : St} {ops : Array Oper} {o : Oper} {rest : List Oper}
end
end Go.Pv

namespace Go.Pv
structure Ratio where
  Num : Int
  Den : Int
deriving DecidableEq
instance : Inhabited Ratio := ⟨⟨0, 0⟩⟩
def Ratio.pd (x : Ratio) : PD := .agg [(.int .i64 x.Num), (.int .i64 x.Den)]
attribute [go_sem] Ratio.pd
@[go_sem] theorem snoc_Ratio (l : List Ratio) (a0 : Int) (a1 : Int) : dl (lenc Ratio.pd l) ++ [PV.d (PD.agg [(.int .i64 a0), (.int .i64 a1)])] = dl (lenc Ratio.pd (l ++ [(⟨a0, a1⟩ : Ratio)])) := lenc_snoc Ratio.pd l (⟨a0, a1⟩ : Ratio)
@[go_sem] theorem set_Ratio (l : List Ratio) (i : Nat) (a0 : Int) (a1 : Int) : (lenc Ratio.pd l).set i (PD.agg [(.int .i64 a0), (.int .i64 a1)]) = lenc Ratio.pd (l.set i (⟨a0, a1⟩ : Ratio)) := lenc_set Ratio.pd l i (⟨a0, a1⟩ : Ratio)
@[go_sem] theorem rep_Ratio (n : Nat) (a0 : Int) (a1 : Int) : List.replicate n (PD.agg [(.int .i64 a0), (.int .i64 a1)]) = lenc Ratio.pd (List.replicate n (⟨a0, a1⟩ : Ratio)) := lenc_rep Ratio.pd n (⟨a0, a1⟩ : Ratio)
structure Walk where
  list : (List Int)
  rate : Ratio
  to : Int
deriving DecidableEq
instance : Inhabited Walk := ⟨⟨[], ⟨0, 0⟩, 0⟩⟩
def Walk.pd (x : Walk) : PD := .agg [(lstD 1 (lenc (PD.int .i64) x.list)), (.int .i64 x.rate.Num), (.int .i64 x.rate.Den), (.int .i64 x.to)]
attribute [go_sem] Walk.pd
@[go_sem] theorem snoc_Walk (l : List Walk) (a0 : (List Int)) (a1 : Int) (a2 : Int) (a3 : Int) : dl (lenc Walk.pd l) ++ [PV.d (PD.agg [(lstD 1 (lenc (PD.int .i64) a0)), (.int .i64 a1), (.int .i64 a2), (.int .i64 a3)])] = dl (lenc Walk.pd (l ++ [(⟨a0, (⟨a1, a2⟩ : Ratio), a3⟩ : Walk)])) := lenc_snoc Walk.pd l (⟨a0, (⟨a1, a2⟩ : Ratio), a3⟩ : Walk)
@[go_sem] theorem set_Walk (l : List Walk) (i : Nat) (a0 : (List Int)) (a1 : Int) (a2 : Int) (a3 : Int) : (lenc Walk.pd l).set i (PD.agg [(lstD 1 (lenc (PD.int .i64) a0)), (.int .i64 a1), (.int .i64 a2), (.int .i64 a3)]) = lenc Walk.pd (l.set i (⟨a0, (⟨a1, a2⟩ : Ratio), a3⟩ : Walk)) := lenc_set Walk.pd l i (⟨a0, (⟨a1, a2⟩ : Ratio), a3⟩ : Walk)
@[go_sem] theorem rep_Walk (n : Nat) (a0 : (List Int)) (a1 : Int) (a2 : Int) (a3 : Int) : List.replicate n (PD.agg [(lstD 1 (lenc (PD.int .i64) a0)), (.int .i64 a1), (.int .i64 a2), (.int .i64 a3)]) = lenc Walk.pd (List.replicate n (⟨a0, (⟨a1, a2⟩ : Ratio), a3⟩ : Walk)) := lenc_rep Walk.pd n (⟨a0, (⟨a1, a2⟩ : Ratio), a3⟩ : Walk)
structure Offer where
  From : Int
  To : Int
  Num : Int
  Den : Int
deriving DecidableEq
instance : Inhabited Offer := ⟨⟨0, 0, 0, 0⟩⟩
def Offer.pd (x : Offer) : PD := .agg [(.int .i64 x.From), (.int .i64 x.To), (.int .i64 x.Num), (.int .i64 x.Den)]
attribute [go_sem] Offer.pd
@[go_sem] theorem snoc_Offer (l : List Offer) (a0 : Int) (a1 : Int) (a2 : Int) (a3 : Int) : dl (lenc Offer.pd l) ++ [PV.d (PD.agg [(.int .i64 a0), (.int .i64 a1), (.int .i64 a2), (.int .i64 a3)])] = dl (lenc Offer.pd (l ++ [(⟨a0, a1, a2, a3⟩ : Offer)])) := lenc_snoc Offer.pd l (⟨a0, a1, a2, a3⟩ : Offer)
@[go_sem] theorem set_Offer (l : List Offer) (i : Nat) (a0 : Int) (a1 : Int) (a2 : Int) (a3 : Int) : (lenc Offer.pd l).set i (PD.agg [(.int .i64 a0), (.int .i64 a1), (.int .i64 a2), (.int .i64 a3)]) = lenc Offer.pd (l.set i (⟨a0, a1, a2, a3⟩ : Offer)) := lenc_set Offer.pd l i (⟨a0, a1, a2, a3⟩ : Offer)
@[go_sem] theorem rep_Offer (n : Nat) (a0 : Int) (a1 : Int) (a2 : Int) (a3 : Int) : List.replicate n (PD.agg [(.int .i64 a0), (.int .i64 a1), (.int .i64 a2), (.int .i64 a3)]) = lenc Offer.pd (List.replicate n (⟨a0, a1, a2, a3⟩ : Offer)) := lenc_rep Offer.pd n (⟨a0, a1, a2, a3⟩ : Offer)
structure Market where
  n : Int
  offers : (List Offer)
deriving DecidableEq
instance : Inhabited Market := ⟨⟨0, []⟩⟩
def Market.pd (x : Market) : PD := .agg [(.int .i64 x.n), (.imm 4 (lenc Offer.pd x.offers))]
attribute [go_sem] Market.pd
@[go_sem] theorem snoc_Market (l : List Market) (a0 : Int) (a1 : (List Offer)) : dl (lenc Market.pd l) ++ [PV.d (PD.agg [(.int .i64 a0), (.imm 4 (lenc Offer.pd a1))])] = dl (lenc Market.pd (l ++ [(⟨a0, a1⟩ : Market)])) := lenc_snoc Market.pd l (⟨a0, a1⟩ : Market)
@[go_sem] theorem set_Market (l : List Market) (i : Nat) (a0 : Int) (a1 : (List Offer)) : (lenc Market.pd l).set i (PD.agg [(.int .i64 a0), (.imm 4 (lenc Offer.pd a1))]) = lenc Market.pd (l.set i (⟨a0, a1⟩ : Market)) := lenc_set Market.pd l i (⟨a0, a1⟩ : Market)
@[go_sem] theorem rep_Market (n : Nat) (a0 : Int) (a1 : (List Offer)) : List.replicate n (PD.agg [(.int .i64 a0), (.imm 4 (lenc Offer.pd a1))]) = lenc Market.pd (List.replicate n (⟨a0, a1⟩ : Market)) := lenc_rep Market.pd n (⟨a0, a1⟩ : Market)
structure Big where
  Neg : Bool
  D : (List Int)
deriving DecidableEq
instance : Inhabited Big := ⟨⟨false, []⟩⟩
def Big.pd (x : Big) : PD := .agg [(.bool x.Neg), (.imm 1 (lenc (PD.int .i64) x.D))]
attribute [go_sem] Big.pd
@[go_sem] theorem snoc_Big (l : List Big) (a0 : Bool) (a1 : (List Int)) : dl (lenc Big.pd l) ++ [PV.d (PD.agg [(.bool a0), (.imm 1 (lenc (PD.int .i64) a1))])] = dl (lenc Big.pd (l ++ [(⟨a0, a1⟩ : Big)])) := lenc_snoc Big.pd l (⟨a0, a1⟩ : Big)
@[go_sem] theorem set_Big (l : List Big) (i : Nat) (a0 : Bool) (a1 : (List Int)) : (lenc Big.pd l).set i (PD.agg [(.bool a0), (.imm 1 (lenc (PD.int .i64) a1))]) = lenc Big.pd (l.set i (⟨a0, a1⟩ : Big)) := lenc_set Big.pd l i (⟨a0, a1⟩ : Big)
@[go_sem] theorem rep_Big (n : Nat) (a0 : Bool) (a1 : (List Int)) : List.replicate n (PD.agg [(.bool a0), (.imm 1 (lenc (PD.int .i64) a1))]) = lenc Big.pd (List.replicate n (⟨a0, a1⟩ : Big)) := lenc_rep Big.pd n (⟨a0, a1⟩ : Big)
structure Q where
  N : Big
  D : Big
deriving DecidableEq
instance : Inhabited Q := ⟨⟨⟨false, []⟩, ⟨false, []⟩⟩⟩
def Q.pd (x : Q) : PD := .agg [(.bool x.N.Neg), (.imm 1 (lenc (PD.int .i64) x.N.D)), (.bool x.D.Neg), (.imm 1 (lenc (PD.int .i64) x.D.D))]
attribute [go_sem] Q.pd
@[go_sem] theorem snoc_Q (l : List Q) (a0 : Bool) (a1 : (List Int)) (a2 : Bool) (a3 : (List Int)) : dl (lenc Q.pd l) ++ [PV.d (PD.agg [(.bool a0), (.imm 1 (lenc (PD.int .i64) a1)), (.bool a2), (.imm 1 (lenc (PD.int .i64) a3))])] = dl (lenc Q.pd (l ++ [(⟨(⟨a0, a1⟩ : Big), (⟨a2, a3⟩ : Big)⟩ : Q)])) := lenc_snoc Q.pd l (⟨(⟨a0, a1⟩ : Big), (⟨a2, a3⟩ : Big)⟩ : Q)
@[go_sem] theorem set_Q (l : List Q) (i : Nat) (a0 : Bool) (a1 : (List Int)) (a2 : Bool) (a3 : (List Int)) : (lenc Q.pd l).set i (PD.agg [(.bool a0), (.imm 1 (lenc (PD.int .i64) a1)), (.bool a2), (.imm 1 (lenc (PD.int .i64) a3))]) = lenc Q.pd (l.set i (⟨(⟨a0, a1⟩ : Big), (⟨a2, a3⟩ : Big)⟩ : Q)) := lenc_set Q.pd l i (⟨(⟨a0, a1⟩ : Big), (⟨a2, a3⟩ : Big)⟩ : Q)
@[go_sem] theorem rep_Q (n : Nat) (a0 : Bool) (a1 : (List Int)) (a2 : Bool) (a3 : (List Int)) : List.replicate n (PD.agg [(.bool a0), (.imm 1 (lenc (PD.int .i64) a1)), (.bool a2), (.imm 1 (lenc (PD.int .i64) a3))]) = lenc Q.pd (List.replicate n (⟨(⟨a0, a1⟩ : Big), (⟨a2, a3⟩ : Big)⟩ : Q)) := lenc_rep Q.pd n (⟨(⟨a0, a1⟩ : Big), (⟨a2, a3⟩ : Big)⟩ : Q)
structure Reach where
  Is : Bool
  Rate : Q
deriving DecidableEq
instance : Inhabited Reach := ⟨⟨false, ⟨⟨false, []⟩, ⟨false, []⟩⟩⟩⟩
def Reach.pd (x : Reach) : PD := .agg [(.bool x.Is), (.bool x.Rate.N.Neg), (.imm 1 (lenc (PD.int .i64) x.Rate.N.D)), (.bool x.Rate.D.Neg), (.imm 1 (lenc (PD.int .i64) x.Rate.D.D))]
attribute [go_sem] Reach.pd
@[go_sem] theorem snoc_Reach (l : List Reach) (a0 : Bool) (a1 : Bool) (a2 : (List Int)) (a3 : Bool) (a4 : (List Int)) : dl (lenc Reach.pd l) ++ [PV.d (PD.agg [(.bool a0), (.bool a1), (.imm 1 (lenc (PD.int .i64) a2)), (.bool a3), (.imm 1 (lenc (PD.int .i64) a4))])] = dl (lenc Reach.pd (l ++ [(⟨a0, (⟨(⟨a1, a2⟩ : Big), (⟨a3, a4⟩ : Big)⟩ : Q)⟩ : Reach)])) := lenc_snoc Reach.pd l (⟨a0, (⟨(⟨a1, a2⟩ : Big), (⟨a3, a4⟩ : Big)⟩ : Q)⟩ : Reach)
@[go_sem] theorem set_Reach (l : List Reach) (i : Nat) (a0 : Bool) (a1 : Bool) (a2 : (List Int)) (a3 : Bool) (a4 : (List Int)) : (lenc Reach.pd l).set i (PD.agg [(.bool a0), (.bool a1), (.imm 1 (lenc (PD.int .i64) a2)), (.bool a3), (.imm 1 (lenc (PD.int .i64) a4))]) = lenc Reach.pd (l.set i (⟨a0, (⟨(⟨a1, a2⟩ : Big), (⟨a3, a4⟩ : Big)⟩ : Q)⟩ : Reach)) := lenc_set Reach.pd l i (⟨a0, (⟨(⟨a1, a2⟩ : Big), (⟨a3, a4⟩ : Big)⟩ : Q)⟩ : Reach)
@[go_sem] theorem rep_Reach (n : Nat) (a0 : Bool) (a1 : Bool) (a2 : (List Int)) (a3 : Bool) (a4 : (List Int)) : List.replicate n (PD.agg [(.bool a0), (.bool a1), (.imm 1 (lenc (PD.int .i64) a2)), (.bool a3), (.imm 1 (lenc (PD.int .i64) a4))]) = lenc Reach.pd (List.replicate n (⟨a0, (⟨(⟨a1, a2⟩ : Big), (⟨a3, a4⟩ : Big)⟩ : Q)⟩ : Reach)) := lenc_rep Reach.pd n (⟨a0, (⟨(⟨a1, a2⟩ : Big), (⟨a3, a4⟩ : Big)⟩ : Q)⟩ : Reach)
def ratioN (a b : Int) : Ratio := ⟨a / Int.gcd a b, b / Int.gcd a b⟩
def timesN (p q : Ratio) : Ratio := ⟨p.Num / Int.gcd p.Num q.Den * (q.Num / Int.gcd q.Num p.Den), p.Den / Int.gcd q.Num p.Den * (q.Den / Int.gcd p.Num q.Den)⟩
def walkSkip (frm length : Int) (rounds : Bool) (w : Walk) (seen : List Bool) (o : Offer) : Bool :=
  (decide (¬o.From = w.to)) || (seen.getD o.To.toNat false && !((rounds && (decide ((w.list.length : Int) = length - 1))) && (decide (o.To = frm))))
def walkOn (offers : List Offer) (frm length : Int) (rounds : Bool) : Nat → Walk → List Bool → List Walk
  | 0, _, _ => []
  | k + 1, w, seen =>
    if (w.list.length : Int) = length then (if (!(decide (w.to = frm) == rounds)) = true then [] else [w])
    else (offers.zipIdx).flatMap fun oi =>
      if walkSkip frm length rounds w (seen.set w.to.toNat true) oi.1 = true then []
      else walkOn offers frm length rounds k ⟨w.list ++ [(oi.2 : Int)], timesN w.rate (ratioN oi.1.Num oi.1.Den), oi.1.To⟩ (seen.set w.to.toNat true)
def walksL (m : Market) (frm length : Int) (rounds : Bool) : List Walk :=
  walkOn m.offers frm length rounds (length.toNat + 1) ⟨[], ⟨1, 1⟩, frm⟩ (List.replicate m.n.toNat false)
def goodOffer (n : Int) (o : Offer) : Bool := decide (0 ≤ o.From ∧ o.From < n ∧ 0 ≤ o.To ∧ o.To < n ∧ 1 ≤ o.Num ∧ o.Num ≤ 50 ∧ 1 ≤ o.Den ∧ o.Den ≤ 50)
def walksPre (m : Market) (frm length : Int) (_ : Bool) : Bool :=
  decide (m.n ≤ 6 ∧ m.offers.length ≤ 40 ∧ 0 ≤ frm ∧ frm < m.n ∧ 0 ≤ length ∧ length ≤ 6) && m.offers.all (goodOffer m.n)
noncomputable def m_cocketlaw01_few (l1 : (List Offer)) : Option Bool :=
 some (decide ((l1.length : Int) ≤ 60))
noncomputable def m_cocketlaw01_ring : Option (List Offer) :=
 some [(⟨0, 1, 2, 1⟩ : Offer), (⟨1, 2, 3, 2⟩ : Offer), (⟨2, 0, 1, 3⟩ : Offer)]
noncomputable def m_rate_market_has (m1 : Market) (c1 : Int) : Option Bool :=
 some ((decide (0 ≤ c1)) && (decide (c1 < m1.n)))
noncomputable def m_rate_of_1 (v1 : Int) : Option Bool :=
 some ((decide (1 ≤ v1)) && (decide (v1 ≤ 50)))
noncomputable def m_rate_of_l1 (n1 : Int) (offers1 : (List Offer)) : (Int × Market) → Option ((Int × Market) ⊕ (Market ⊕ (Market × Int))) := fun (v1, c2) =>
 cond (decide (v1 < (offers1.length : Int)))
  (
  (idx offers1 v1).bind fun e1 =>
  (m_rate_market_has (⟨n1, offers1⟩ : Market) e1.From).bind fun r1 =>
  ((cond (!r1)
   (some true)
   (
    (m_rate_market_has (⟨n1, offers1⟩ : Market) e1.To).bind fun r2 =>
    some (!r2)
   )
  ) : Option Bool).bind fun b1 =>
  ((cond (b1 || (decide (e1.From = e1.To)))
   (some true)
   (
    (m_rate_of_1 e1.Num).bind fun r3 =>
    some (!r3)
   )
  ) : Option Bool).bind fun b2 =>
  ((cond b2
   (some true)
   (
    (m_rate_of_1 e1.Den).bind fun r4 =>
    some (!r4)
   )
  ) : Option Bool).bind fun b3 =>
  cond b3
   (
   some (.inr (.inr ((⟨0, []⟩ : Market), 2)))
   )
   (
   some (.inl ((IntKind.i64.wrap (v1 + 1)), c2))
   )
  )
  (
  some (.inr (.inl c2))
  )
noncomputable def m_rate_of (n1 : Int) (offers1 : (List Offer)) : Option (Market × Int) :=
 cond ((decide (n1 < 2)) || (decide (6 < n1)))
  (
  some ((⟨0, []⟩ : Market), 2)
  )
  (
  cond (decide (40 < (offers1.length : Int)))
   (
   some ((⟨0, []⟩ : Market), 3)
   )
   (
   (
   (
    (
    (iter (m_rate_of_l1 n1 offers1) (0, (⟨0, []⟩ : Market))).bind fun x_12 => match x_12 with
      | (.inl y1) => some (.inl y1)
      | (.inr y2) => some (.inr y2)
    )
    : Option (Market ⊕ (Market × Int))).bind fun o_6 => match o_6 with
     | (.inl c1) =>
       some ((⟨n1, offers1⟩ : Market), 0)
     | (.inr y3) => some y3
   )
   )
  )
noncomputable def m_rate_above (a1 : Ratio) (b1 : Ratio) : Option Bool :=
 some (decide ((IntKind.i64.wrap (b1.Num * a1.Den)) < (IntKind.i64.wrap (a1.Num * b1.Den))))
noncomputable def m_cmp_isNaN (x1 : Int) : Option Bool :=
 some (decide (¬x1 = x1))
noncomputable def m_cmp_Compare (x1 : Int) (y1 : Int) : Option Int :=
 (m_cmp_isNaN x1).bind fun r1 =>
 (m_cmp_isNaN y1).bind fun r2 =>
 cond r1
  (
  cond r2
   (
   some 0
   )
   (
   some (-1)
   )
  )
  (
  cond r2
   (
   some 1
   )
   (
   cond (decide (x1 < y1))
    (
    some (-1)
    )
    (
    cond (decide (y1 < x1))
     (
     some 1
     )
     (
     some 0
     )
    )
   )
  )
noncomputable def m_slices_Compare_l1 (s11 : (List Int)) (s21 : (List Int)) : Int → Option (Int ⊕ (Unit ⊕ Int)) := fun v1 =>
 cond (decide (v1 < (s11.length : Int)))
  (
  (idx s11 v1).bind fun e1 =>
  cond (decide ((s21.length : Int) ≤ v1))
   (
   some (.inr (.inr 1))
   )
   (
   (idx s21 v1).bind fun e2 =>
   (m_cmp_Compare e1 e2).bind fun r1 =>
   cond (decide (¬r1 = 0))
    (
    some (.inr (.inr r1))
    )
    (
    some (.inl (IntKind.i64.wrap (v1 + 1)))
    )
   )
  )
  (
  some (.inr (.inl ()))
  )
noncomputable def m_slices_Compare (s11 : (List Int)) (s21 : (List Int)) : Option Int :=
 (
 (
  (
  (iter (m_slices_Compare_l1 s11 s21) 0).bind fun x_7 => match x_7 with
    | (.inl y1) => some (.inl y1)
    | (.inr y2) => some (.inr y2)
  )
  : Option (Unit ⊕ Int)).bind fun o_1 => match o_1 with
   | (.inl _) =>
     cond (decide ((s11.length : Int) < (s21.length : Int)))
      (
      some (-1)
      )
      (
      some 0
      )
   | (.inr y3) => some y3
 )
noncomputable def m_rate_market_round_r3 : (List Int) → Walk → Option ((List Int) ⊕ (List Int)) := fun c4 x1 =>
 (m_rate_above x1.rate (⟨1, 1⟩ : Ratio)).bind fun r1 =>
 cond r1
  (
  (
   ((cond ((c4).isEmpty)
    (some true)
    (
     (m_slices_Compare x1.list c4).bind fun r2 =>
     some (decide (r2 < 0))
    )
   ) : Option Bool).bind fun b1 =>
   cond b1
    (
    some x1.list
    )
    (
    some c4
    )
   : Option (List Int)).bind fun c5 =>
  some (.inr c5)
  )
  (
  some (.inl c4)
  )
noncomputable def m_rate_market_round_l2 (m1 : Market) (length1 : Int) : (Int × (List Int)) → Option ((Int × (List Int)) ⊕ (List Int)) := fun (v1, c2) =>
 cond (decide (v1 < m1.n))
  (
  (
   guardO (walksPre m1 v1 length1 true = true) <|
   (
   (rangeM (m_rate_market_round_r3) c2 (walksL m1 v1 length1 true)).bind fun o_38 => match o_38 with
     | .inl c4 =>
       some c4
     | .inr c41 =>
       some c41
   )
   : Option (List Int)).bind fun c3 =>
  some (.inl ((IntKind.i64.wrap (v1 + 1)), c3))
  )
  (
  some (.inr c2)
  )
noncomputable def m_rate_market_round_l1 (m1 : Market) : Int → Option (Int ⊕ (Unit ⊕ (List Int))) := fun length1 =>
 cond (decide (length1 ≤ m1.n))
  (
  (
  (
   (
    (iter (m_rate_market_round_l2 m1 length1) (0, [])).bind fun x_19 =>
    some x_19
    : Option (List Int)).bind fun c1 =>
   cond (!(c1).isEmpty)
    (
    some (.inr c1)
    )
    (
    some (.inl ())
    )
   : Option (Unit ⊕ (List Int))).bind fun o_11 => match o_11 with
    | (.inl _) =>
      some (.inl (IntKind.i64.wrap (length1 + 1)))
    | (.inr y1) => some (.inr (.inr y1))
  )
  )
  (
  some (.inr (.inl ()))
  )
noncomputable def m_rate_market_round (m1 : Market) : Option (List Int) :=
 (
 (
  (
  (iter (m_rate_market_round_l1 m1) 2).bind fun x_7 => match x_7 with
    | (.inl y2) => some (.inl y2)
    | (.inr y3) => some (.inr y3)
  )
  : Option (Unit ⊕ (List Int))).bind fun o_1 => match o_1 with
   | (.inl _) =>
     some []
   | (.inr y4) => some y4
 )
noncomputable def m_rate_market_best_r2 (to1 : Int) : (Walk × Bool) → Walk → Option ((Walk × Bool) ⊕ (Walk × Bool)) := fun (c7, c8) x1 =>
 ((cond (decide (x1.to = to1))
  (
   ((cond (!c8)
    (some true)
    (
     (m_rate_above x1.rate c7.rate).bind fun r1 =>
     some r1
    )
   ) : Option Bool).bind fun b2 =>
   some b2
  )
  (some false)
 ) : Option Bool).bind fun b1 =>
 cond b1
  (
  some (.inl (x1, true))
  )
  (
  some (.inl (c7, c8))
  )
noncomputable def m_rate_market_best_l1 (m1 : Market) (from1 : Int) (to1 : Int) : (Int × Walk × Bool) → Option ((Int × Walk × Bool) ⊕ (Walk × Bool)) := fun (length1, c3, c4) =>
 cond (decide (length1 < m1.n))
  (
  (
   guardO (walksPre m1 from1 length1 false = true) <|
   (
   (rangeM (m_rate_market_best_r2 to1) (c3, c4) (walksL m1 from1 length1 false)).bind fun o_26 => match o_26 with
     | .inl (c7, c8) =>
       some (c7, c8)
     | .inr (c71, c81) =>
       none
   )
   : Option (Walk × Bool)).bind fun (c5, c6) =>
  some (.inl ((IntKind.i64.wrap (length1 + 1)), c5, c6))
  )
  (
  some (.inr (c3, c4))
  )
noncomputable def m_rate_market_best (m1 : Market) (from1 : Int) (to1 : Int) : Option (Walk × Bool) :=
 cond (decide (from1 = to1))
  (
  some ((⟨[], (⟨1, 1⟩ : Ratio), 0⟩ : Walk), true)
  )
  (
  (
   (iter (m_rate_market_best_l1 m1 from1 to1) (1, (⟨[], (⟨0, 0⟩ : Ratio), 0⟩ : Walk), false)).bind fun x_9 =>
   some x_9
   : Option (Walk × Bool)).bind fun (c1, c2) =>
  some (c1, c2)
  )
noncomputable def m_rate_Prices_l2 (n1 : Int) (r1 : (Market × Int)) (v1 : Int) : (Int × Ratio) → Option ((Int × Ratio) ⊕ Ratio) := fun (v2, c2) =>
 cond (decide (v2 < n1))
  (
  (
   (m_rate_market_best r1.1 v1 v2).bind fun r3 =>
   ((cond r3.2
    (
     (m_rate_above r3.1.rate c2).bind fun r4 =>
     some r4
    )
    (some false)
   ) : Option Bool).bind fun b1 =>
   cond b1
    (
    some r3.1.rate
    )
    (
    some c2
    )
   : Option Ratio).bind fun c3 =>
  some (.inl ((IntKind.i64.wrap (v2 + 1)), c3))
  )
  (
  some (.inr c2)
  )
noncomputable def m_rate_Prices_l1 (n1 : Int) (r1 : (Market × Int)) : (Int × (List Ratio)) → Option ((Int × (List Ratio)) ⊕ (List Ratio)) := fun (v1, L2) =>
 cond (decide (v1 < n1))
  (
  (
   (
    (iter (m_rate_Prices_l2 n1 r1 v1) (0, (⟨1, 1⟩ : Ratio))).bind fun x_25 =>
    some x_25
    : Option Ratio).bind fun c1 =>
   guardO (L2.length + [c1].length ≤ 4294967296) <|
   some (L2 ++ [c1])
   : Option (List Ratio)).bind fun L3 =>
  some (.inl ((IntKind.i64.wrap (v1 + 1)), L3))
  )
  (
  some (.inr L2)
  )
noncomputable def m_rate_Prices (n1 : Int) (offers1 : (List Offer)) : Option ((List Ratio) × Int) :=
 (m_rate_of n1 offers1).bind fun r1 =>
 cond (decide (¬r1.2 = 0))
  (
  some ([], r1.2)
  )
  (
  (m_rate_market_round r1.1).bind fun r2 =>
  cond (!(r2).isEmpty)
   (
   some ([], 10)
   )
   (
   (
    (iter (m_rate_Prices_l1 n1 r1) (0, [])).bind fun x_13 =>
    some x_13
    : Option (List Ratio)).bind fun L1 =>
   some (L1, 0)
   )
  )
noncomputable def m_rate_Best (n1 : Int) (offers1 : (List Offer)) (from1 : Int) (to1 : Int) : Option (Ratio × (List Int) × Int) :=
 (m_rate_of n1 offers1).bind fun r1 =>
 cond (decide (¬r1.2 = 0))
  (
  some ((⟨0, 0⟩ : Ratio), [], r1.2)
  )
  (
  (m_rate_market_has r1.1 from1).bind fun r2 =>
  ((cond (!r2)
   (some true)
   (
    (m_rate_market_has r1.1 to1).bind fun r3 =>
    some (!r3)
   )
  ) : Option Bool).bind fun b1 =>
  cond b1
   (
   some ((⟨0, 0⟩ : Ratio), [], 2)
   )
   (
   (m_rate_market_round r1.1).bind fun r4 =>
   cond (!(r4).isEmpty)
    (
    some ((⟨0, 0⟩ : Ratio), [], 11)
    )
    (
    (m_rate_market_best r1.1 from1 to1).bind fun r5 =>
    cond (!r5.2)
     (
     some ((⟨0, 0⟩ : Ratio), [], 10)
     )
     (
     some (r5.1.rate, r5.1.list, 0)
     )
    )
   )
  )
noncomputable def m_rate_Round (n1 : Int) (offers1 : (List Offer)) : Option ((List Int) × Int) :=
 (m_rate_of n1 offers1).bind fun r1 =>
 cond (decide (¬r1.2 = 0))
  (
  some ([], r1.2)
  )
  (
  (m_rate_market_round r1.1).bind fun r2 =>
  cond ((r2).isEmpty)
   (
   some ([], 10)
   )
   (
   some (r2, 0)
   )
  )
noncomputable def m_cocketlaw01_same_l1 (a1 : (List Int)) (b1 : (List Int)) : Int → Option (Int ⊕ (Unit ⊕ Bool)) := fun i1 =>
 cond (decide (i1 < (a1.length : Int)))
  (
  (idx a1 i1).bind fun e1 =>
  (idx b1 i1).bind fun e2 =>
  cond (decide (¬e1 = e2))
   (
   some (.inr (.inr false))
   )
   (
   some (.inl (IntKind.i64.wrap (i1 + 1)))
   )
  )
  (
  some (.inr (.inl ()))
  )
noncomputable def m_cocketlaw01_same (a1 : (List Int)) (b1 : (List Int)) : Option Bool :=
 cond (decide (¬(a1.length : Int) = (b1.length : Int)))
  (
  some false
  )
  (
  (
  (
   (
   (iter (m_cocketlaw01_same_l1 a1 b1) 0).bind fun x_9 => match x_9 with
     | (.inl y1) => some (.inl y1)
     | (.inr y2) => some (.inr y2)
   )
   : Option (Unit ⊕ Bool)).bind fun o_3 => match o_3 with
    | (.inl _) =>
      some true
    | (.inr y3) => some y3
  )
  )
noncomputable def m_cocketlaw01_alive : Option Bool :=
 (m_cocketlaw01_ring).bind fun r1 =>
 (m_rate_Prices 3 r1).bind fun r2 =>
 (m_cocketlaw01_ring).bind fun r3 =>
 (m_rate_Best 3 r3 0 2).bind fun r4 =>
 (m_cocketlaw01_ring).bind fun r5 =>
 (idx r5 2).bind fun e1 =>
 (m_rate_Round 3 (r5.set 2 (⟨e1.From, e1.To, e1.Num, 2⟩ : Offer))).bind fun r6 =>
 ((cond ((decide (r2.2 = 0)) && (decide ((r2.1.length : Int) = 3)))
  (
   (idx r2.1 1).bind fun e2 =>
   some ((e2.Num == 3) && (e2.Den == 2))
  )
  (some false)
 ) : Option Bool).bind fun b1 =>
 ((cond ((((b1 && (decide (r4.2.2 = 0))) && ((r4.1.Num == 3) && (r4.1.Den == 1))) && (decide ((r4.2.1.length : Int) = 2))) && (decide (r6.2 = 0)))
  (
   (m_cocketlaw01_same r6.1 [0, 1, 2]).bind fun r7 =>
   some r7
  )
  (some false)
 ) : Option Bool).bind fun b2 =>
 some b2
noncomputable def m_cocketref01_Good_l1 (n1 : Int) (l1 : (List Offer)) : Int → Option (Int ⊕ (Unit ⊕ Int)) := fun i1 =>
 cond (decide (i1 < (l1.length : Int)))
  (
  (idx l1 i1).bind fun e1 =>
  cond (((((((((decide (e1.From < 0)) || (decide (n1 ≤ e1.From))) || (decide (e1.To < 0))) || (decide (n1 ≤ e1.To))) || (decide (e1.From = e1.To))) || (decide (e1.Num < 1))) || (decide (50 < e1.Num))) || (decide (e1.Den < 1))) || (decide (50 < e1.Den)))
   (
   some (.inr (.inr 2))
   )
   (
   some (.inl (IntKind.i64.wrap (i1 + 1)))
   )
  )
  (
  some (.inr (.inl ()))
  )
noncomputable def m_cocketref01_Good (n1 : Int) (l1 : (List Offer)) : Option Int :=
 cond ((decide (n1 < 2)) || (decide (6 < n1)))
  (
  some 2
  )
  (
  cond (decide (40 < (l1.length : Int)))
   (
   some 3
   )
   (
   (
   (
    (
    (iter (m_cocketref01_Good_l1 n1 l1) 0).bind fun x_13 => match x_13 with
      | (.inl y1) => some (.inl y1)
      | (.inr y2) => some (.inr y2)
    )
    : Option (Unit ⊕ Int)).bind fun o_7 => match o_7 with
     | (.inl _) =>
       some 0
     | (.inr y3) => some y3
   )
   )
  )
noncomputable def m_cocketref01_trim_l1 (d1 : (List Int)) : Int → Option (Int ⊕ Int) := fun n2 =>
 ((cond (decide (0 < n2))
  (
   (idx d1 (IntKind.i64.wrap (n2 - 1))).bind fun e1 =>
   some (decide (e1 = 0))
  )
  (some false)
 ) : Option Bool).bind fun b1 =>
 cond b1
  (
  some (.inl (IntKind.i64.wrap (n2 - 1)))
  )
  (
  some (.inr n2)
  )
noncomputable def m_cocketref01_trim_l2 (d1 : (List Int)) (n1 : Int) : (Int × (List Int)) → Option ((Int × (List Int)) ⊕ (List Int)) := fun (i1, L2) =>
 cond (decide (i1 < n1))
  (
  (idx d1 i1).bind fun e2 =>
  guardO (L2.length + [e2].length ≤ 4294967296) <|
  some (.inl ((IntKind.i64.wrap (i1 + 1)), (L2 ++ [e2])))
  )
  (
  some (.inr L2)
  )
noncomputable def m_cocketref01_trim (d1 : (List Int)) : Option (List Int) :=
 (
  (iter (m_cocketref01_trim_l1 d1) (d1.length : Int)).bind fun x_7 =>
  some x_7
  : Option Int).bind fun n1 =>
 (
  (iter (m_cocketref01_trim_l2 d1 n1) (0, [])).bind fun x_23 =>
  some x_23
  : Option (List Int)).bind fun L1 =>
 some L1
noncomputable def m_cocketref01_whole (neg1 : Bool) (d1 : (List Int)) : Option Big :=
 (m_cocketref01_trim d1).bind fun r1 =>
 some (⟨(neg1 && (decide (0 < (r1.length : Int)))), r1⟩ : Big)
noncomputable def m_cocketref01_Of_l1 : (Int × (List Int)) → Option ((Int × (List Int)) ⊕ (List Int)) := fun (n2, L2) =>
 cond (decide (¬n2 = 0))
  (
  (
   cond (decide ((n2.tmod 10000) < 0))
    (
    some (IntKind.i64.wrap (0 - (n2.tmod 10000)))
    )
    (
    some (n2.tmod 10000)
    )
   : Option Int).bind fun r1 =>
  guardO (L2.length + [r1].length ≤ 4294967296) <|
  some (.inl ((IntKind.i64.wrap (n2.tdiv 10000)), (L2 ++ [r1])))
  )
  (
  some (.inr L2)
  )
noncomputable def m_cocketref01_Of (n1 : Int) : Option Big :=
 (
  (iter m_cocketref01_Of_l1 (n1, [])).bind fun x_7 =>
  some x_7
  : Option (List Int)).bind fun L1 =>
 (m_cocketref01_whole (decide (n1 < 0)) L1).bind fun r2 =>
 some r2
noncomputable def m_cocketref01_Neg (a1 : Big) : Option Big :=
 (m_cocketref01_whole (!a1.Neg) a1.D).bind fun r1 =>
 some r1
noncomputable def m_cocketref01_mulD_l2 (a1 : (List Int)) (b1 : (List Int)) (i1 : Int) : (Int × Int × (List Int)) → Option ((Int × Int × (List Int)) ⊕ (Int × (List Int))) := fun (carry2, k1, L5) =>
 cond (decide (k1 < (b1.length : Int)))
  (
  (idx L5 (IntKind.i64.wrap (i1 + k1))).bind fun e1 =>
  (idx a1 i1).bind fun e2 =>
  (idx b1 k1).bind fun e3 =>
  (idx L5 (IntKind.i64.wrap (i1 + k1))).bind fun e4 =>
  some (.inl ((IntKind.i64.wrap ((IntKind.i64.wrap ((IntKind.i64.wrap (e1 + (IntKind.i64.wrap (e2 * e3)))) + carry2)).tdiv 10000)), (IntKind.i64.wrap (k1 + 1)), (L5.set ((IntKind.i64.wrap (i1 + k1))).toNat ((IntKind.i64.wrap ((IntKind.i64.wrap (e1 + (IntKind.i64.wrap (e2 * e3)))) + carry2)).tmod 10000))))
  )
  (
  some (.inr (carry2, L5))
  )
noncomputable def m_cocketref01_mulD_l1 (a1 : (List Int)) (b1 : (List Int)) : (Int × (List Int)) → Option ((Int × (List Int)) ⊕ (List Int)) := fun (i1, L2) =>
 cond (decide (i1 < (a1.length : Int)))
  (
  (
   (
    (iter (m_cocketref01_mulD_l2 a1 b1 i1) (0, 0, L2)).bind fun x_20 =>
    some x_20
    : Option (Int × (List Int))).bind fun (carry1, L4) =>
   (idx L4 (IntKind.i64.wrap (i1 + (b1.length : Int)))).bind fun e5 =>
   some (L4.set ((IntKind.i64.wrap (i1 + (b1.length : Int)))).toNat carry1)
   : Option (List Int)).bind fun L3 =>
  some (.inl ((IntKind.i64.wrap (i1 + 1)), L3))
  )
  (
  some (.inr L2)
  )
noncomputable def m_cocketref01_mulD (a1 : (List Int)) (b1 : (List Int)) : Option (List Int) :=
 guardO (0 ≤ (IntKind.i64.wrap ((a1.length : Int) + (b1.length : Int))) ∧ (IntKind.i64.wrap ((a1.length : Int) + (b1.length : Int))) ≤ 4294967296) <|
 (
  (iter (m_cocketref01_mulD_l1 a1 b1) (0, (List.replicate ((IntKind.i64.wrap ((a1.length : Int) + (b1.length : Int)))).toNat (0 : Int)))).bind fun x_8 =>
  some x_8
  : Option (List Int)).bind fun L1 =>
 (m_cocketref01_trim L1).bind fun r1 =>
 some r1
noncomputable def m_cocketref01_cmpD_l1 (a1 : (List Int)) (b1 : (List Int)) : Int → Option (Int ⊕ (Unit ⊕ Int)) := fun i1 =>
 cond (decide (0 ≤ i1))
  (
  (idx a1 i1).bind fun e1 =>
  (idx b1 i1).bind fun e2 =>
  cond (decide (e1 < e2))
   (
   some (.inr (.inr (-1)))
   )
   (
   (idx a1 i1).bind fun e3 =>
   (idx b1 i1).bind fun e4 =>
   cond (decide (e4 < e3))
    (
    some (.inr (.inr 1))
    )
    (
    some (.inl (IntKind.i64.wrap (i1 - 1)))
    )
   )
  )
  (
  some (.inr (.inl ()))
  )
noncomputable def m_cocketref01_cmpD (a1 : (List Int)) (b1 : (List Int)) : Option Int :=
 cond (decide ((a1.length : Int) < (b1.length : Int)))
  (
  some (-1)
  )
  (
  cond (decide ((b1.length : Int) < (a1.length : Int)))
   (
   some 1
   )
   (
   (
   (
    (
    (iter (m_cocketref01_cmpD_l1 a1 b1) (IntKind.i64.wrap ((a1.length : Int) - 1))).bind fun x_11 => match x_11 with
      | (.inl y1) => some (.inl y1)
      | (.inr y2) => some (.inr y2)
    )
    : Option (Unit ⊕ Int)).bind fun o_5 => match o_5 with
     | (.inl _) =>
       some 0
     | (.inr y3) => some y3
   )
   )
  )
noncomputable def m_cocketref01_subD_l1 (a1 : (List Int)) (b1 : (List Int)) : (Int × Int × (List Int)) → Option ((Int × Int × (List Int)) ⊕ (List Int)) := fun (borrow1, i1, L2) =>
 cond (decide (i1 < (a1.length : Int)))
  (
  (idx a1 i1).bind fun e1 =>
  (
   cond (decide (i1 < (b1.length : Int)))
    (
    (idx b1 i1).bind fun e2 =>
    some (IntKind.i64.wrap ((IntKind.i64.wrap (e1 - borrow1)) - e2))
    )
    (
    some (IntKind.i64.wrap (e1 - borrow1))
    )
   : Option Int).bind fun s1 =>
  (
   cond (decide (s1 < 0))
    (
    some (1, (IntKind.i64.wrap (s1 + 10000)))
    )
    (
    some (0, s1)
    )
   : Option (Int × Int)).bind fun (borrow2, s2) =>
  guardO (L2.length + [s2].length ≤ 4294967296) <|
  some (.inl (borrow2, (IntKind.i64.wrap (i1 + 1)), (L2 ++ [s2])))
  )
  (
  some (.inr L2)
  )
noncomputable def m_cocketref01_subD (a1 : (List Int)) (b1 : (List Int)) : Option (List Int) :=
 (
  (iter (m_cocketref01_subD_l1 a1 b1) (0, 0, [])).bind fun x_7 =>
  some x_7
  : Option (List Int)).bind fun L1 =>
 (m_cocketref01_trim L1).bind fun r1 =>
 some r1
noncomputable def m_cocketref01_divD_l2 (b1 : (List Int)) (r1 : (List Int)) : (Int × Int) → Option ((Int × Int) ⊕ Int) := fun (lo2, hi1) =>
 cond (decide (lo2 < hi1))
  (
  (m_cocketref01_trim [(IntKind.i64.wrap ((IntKind.i64.wrap ((IntKind.i64.wrap (lo2 + hi1)) + 1)).tdiv 2))]).bind fun r2 =>
  (m_cocketref01_mulD b1 r2).bind fun r3 =>
  (m_cocketref01_cmpD r3 r1).bind fun r4 =>
  cond (decide (r4 ≤ 0))
   (
   some (.inl ((IntKind.i64.wrap ((IntKind.i64.wrap ((IntKind.i64.wrap (lo2 + hi1)) + 1)).tdiv 2)), hi1))
   )
   (
   some (.inl (lo2, (IntKind.i64.wrap ((IntKind.i64.wrap ((IntKind.i64.wrap ((IntKind.i64.wrap (lo2 + hi1)) + 1)).tdiv 2)) - 1))))
   )
  )
  (
  some (.inr lo2)
  )
noncomputable def m_cocketref01_divD_l1 (a1 : (List Int)) (b1 : (List Int)) : ((List Int) × Int × (List Int)) → Option (((List Int) × Int × (List Int)) ⊕ ((List Int) × (List Int))) := fun (rem2, i1, L2) =>
 cond (decide (0 ≤ i1))
  (
  (
   (idx a1 i1).bind fun e1 =>
   guardO (1 + rem2.length ≤ 4294967296) <|
   (m_cocketref01_trim ([e1] ++ rem2)).bind fun r1 =>
   (
    (iter (m_cocketref01_divD_l2 b1 r1) (0, 9999)).bind fun x_28 =>
    some x_28
    : Option Int).bind fun lo1 =>
   (idx L2 i1).bind fun e2 =>
   (m_cocketref01_trim [lo1]).bind fun r5 =>
   (m_cocketref01_mulD b1 r5).bind fun r6 =>
   (m_cocketref01_subD r1 r6).bind fun r7 =>
   some (r7, (L2.set (i1).toNat lo1))
   : Option ((List Int) × (List Int))).bind fun (rem3, L3) =>
  some (.inl (rem3, (IntKind.i64.wrap (i1 - 1)), L3))
  )
  (
  some (.inr (rem2, L2))
  )
noncomputable def m_cocketref01_divD (a1 : (List Int)) (b1 : (List Int)) : Option ((List Int) × (List Int)) :=
 cond (decide ((b1.length : Int) = 0))
  (
  some ([], [])
  )
  (
  guardO (0 ≤ (a1.length : Int) ∧ (a1.length : Int) ≤ 4294967296) <|
  (
   (iter (m_cocketref01_divD_l1 a1 b1) ([], (IntKind.i64.wrap ((a1.length : Int) - 1)), (List.replicate ((a1.length : Int)).toNat (0 : Int)))).bind fun x_10 =>
   some x_10
   : Option ((List Int) × (List Int))).bind fun (rem1, L1) =>
  (m_cocketref01_trim L1).bind fun r8 =>
  some (r8, rem1)
  )
noncomputable def m_cocketref01_gcdD_l1 : ((List Int) × (List Int)) → Option (((List Int) × (List Int)) ⊕ (List Int)) := fun (a3, b2) =>
 cond (decide (0 < (b2.length : Int)))
  (
  (m_cocketref01_divD a3 b2).bind fun r1 =>
  some (.inl (b2, r1.2))
  )
  (
  some (.inr a3)
  )
noncomputable def m_cocketref01_gcdD (a1 : (List Int)) (b1 : (List Int)) : Option (List Int) :=
 (
  (iter m_cocketref01_gcdD_l1 (a1, b1)).bind fun x_7 =>
  some x_7
  : Option (List Int)).bind fun a2 =>
 some a2
noncomputable def m_cocketref01_addD_l1 (a1 : (List Int)) (b1 : (List Int)) : (Int × Int × (List Int)) → Option ((Int × Int × (List Int)) ⊕ (List Int)) := fun (carry1, i1, L2) =>
 cond (((decide (i1 < (a1.length : Int))) || (decide (i1 < (b1.length : Int)))) || (decide (0 < carry1)))
  (
  (
   cond (decide (i1 < (a1.length : Int)))
    (
    (idx a1 i1).bind fun e1 =>
    some (IntKind.i64.wrap (carry1 + e1))
    )
    (
    some carry1
    )
   : Option Int).bind fun s1 =>
  (
   cond (decide (i1 < (b1.length : Int)))
    (
    (idx b1 i1).bind fun e2 =>
    some (IntKind.i64.wrap (s1 + e2))
    )
    (
    some s1
    )
   : Option Int).bind fun s2 =>
  guardO (L2.length + [(s2.tmod 10000)].length ≤ 4294967296) <|
  some (.inl ((IntKind.i64.wrap (s2.tdiv 10000)), (IntKind.i64.wrap (i1 + 1)), (L2 ++ [(s2.tmod 10000)])))
  )
  (
  some (.inr L2)
  )
noncomputable def m_cocketref01_addD (a1 : (List Int)) (b1 : (List Int)) : Option (List Int) :=
 (
  (iter (m_cocketref01_addD_l1 a1 b1) (0, 0, [])).bind fun x_7 =>
  some x_7
  : Option (List Int)).bind fun L1 =>
 some L1
noncomputable def m_cocketref01_Over (a1 : Big) (b1 : Big) : Option (Big × Big) :=
 (m_cocketref01_divD a1.D b1.D).bind fun r1 =>
 cond (!a1.Neg)
  (
  (m_cocketref01_whole false r1.1).bind fun r2 =>
  (m_cocketref01_whole false r1.2).bind fun r3 =>
  some (r2, r3)
  )
  (
  cond (decide ((r1.2.length : Int) = 0))
   (
   (m_cocketref01_whole true r1.1).bind fun r4 =>
   some (r4, (⟨false, []⟩ : Big))
   )
   (
   (m_cocketref01_addD r1.1 [1]).bind fun r5 =>
   (m_cocketref01_whole true r5).bind fun r6 =>
   (m_cocketref01_subD b1.D r1.2).bind fun r7 =>
   (m_cocketref01_whole false r7).bind fun r8 =>
   some (r6, r8)
   )
  )
noncomputable def m_cocketref01_lowest (n1 : Big) (d1 : Big) : Option Q :=
 (
  cond d1.Neg
   (
   (m_cocketref01_Neg n1).bind fun r1 =>
   (m_cocketref01_Neg d1).bind fun r2 =>
   some (r1, r2)
   )
   (
   some (n1, d1)
   )
  : Option (Big × Big)).bind fun (c1, c2) =>
 (m_cocketref01_gcdD c1.D c2.D).bind fun r3 =>
 (m_cocketref01_whole false r3).bind fun r4 =>
 (m_cocketref01_Over c1 r4).bind fun r5 =>
 (m_cocketref01_Over c2 r4).bind fun r6 =>
 some (⟨r5.1, r6.1⟩ : Q)
noncomputable def m_cocketref01_Frac (n1 : Int) (d1 : Int) : Option Q :=
 (m_cocketref01_Of n1).bind fun r1 =>
 (m_cocketref01_Of d1).bind fun r2 =>
 (m_cocketref01_lowest r1 r2).bind fun r3 =>
 some r3
noncomputable def m_cocketref01_rate (o1 : Offer) : Option Q :=
 (m_cocketref01_Frac o1.Num o1.Den).bind fun r1 =>
 some r1
noncomputable def m_cocketref01_Times (a1 : Big) (b1 : Big) : Option Big :=
 (m_cocketref01_mulD a1.D b1.D).bind fun r1 =>
 (m_cocketref01_whole (!(a1.Neg == b1.Neg)) r1).bind fun r2 =>
 some r2
noncomputable def m_cocketref01_Mul (a1 : Q) (b1 : Q) : Option Q :=
 (m_cocketref01_Times a1.N b1.N).bind fun r1 =>
 (m_cocketref01_Times a1.D b1.D).bind fun r2 =>
 (m_cocketref01_lowest r1 r2).bind fun r3 =>
 some r3
noncomputable def m_cocketref01_Compare (a1 : Big) (b1 : Big) : Option Int :=
 cond (!(a1.Neg == b1.Neg))
  (
  cond a1.Neg
   (
   some (-1)
   )
   (
   some 1
   )
  )
  (
  (m_cocketref01_cmpD a1.D b1.D).bind fun r1 =>
  cond a1.Neg
   (
   some (IntKind.i64.wrap (0 - r1))
   )
   (
   some r1
   )
  )
noncomputable def m_cocketref01_Cmp (a1 : Q) (b1 : Q) : Option Int :=
 (m_cocketref01_Times a1.N b1.D).bind fun r1 =>
 (m_cocketref01_Times b1.N a1.D).bind fun r2 =>
 (m_cocketref01_Compare r1 r2).bind fun r3 =>
 some r3
noncomputable def m_cocketref01_better (r1 : Reach) (q1 : Q) : Option Bool :=
 ((cond (!r1.Is)
  (some true)
  (
   (m_cocketref01_Cmp q1 r1.Rate).bind fun r2 =>
   some (decide (0 < r2))
  )
 ) : Option Bool).bind fun b1 =>
 some b1
noncomputable def m_cocketref01_reaches_l2 (l1 : (List Offer)) (k1 : Int) (L2 : (List (List Reach))) : (Int × (List Reach)) → Option ((Int × (List Reach)) ⊕ (List Reach)) := fun (i1, L5) =>
 cond (decide (i1 < (l1.length : Int)))
  (
  (
   (idx L2 (IntKind.i64.wrap (k1 - 1))).bind fun e2 =>
   (idx l1 i1).bind fun e3 =>
   (idx e2 e3.To).bind fun e4 =>
   cond e4.Is
    (
    (idx l1 i1).bind fun e5 =>
    (m_cocketref01_rate e5).bind fun r2 =>
    (m_cocketref01_Mul r2 e4.Rate).bind fun r3 =>
    (idx l1 i1).bind fun e6 =>
    (idx L5 e6.From).bind fun e7 =>
    (m_cocketref01_better e7 r3).bind fun r4 =>
    cond r4
     (
     (idx l1 i1).bind fun e8 =>
     (idx L5 e8.From).bind fun e9 =>
     some (L5.set (e8.From).toNat (⟨true, r3⟩ : Reach))
     )
     (
     some L5
     )
    )
    (
    some L5
    )
   : Option (List Reach)).bind fun L6 =>
  some (.inl ((IntKind.i64.wrap (i1 + 1)), L6))
  )
  (
  some (.inr L5)
  )
noncomputable def m_cocketref01_reaches_l1 (n1 : Int) (l1 : (List Offer)) (most1 : Int) : (Int × (List (List Reach))) → Option ((Int × (List (List Reach))) ⊕ (List (List Reach))) := fun (k1, L2) =>
 cond (decide (k1 ≤ most1))
  (
  (
   guardO (0 ≤ n1 ∧ n1 ≤ 4294967296) <|
   (
    (iter (m_cocketref01_reaches_l2 l1 k1 L2) (0, (List.replicate (n1).toNat (⟨false, ⟨⟨false, []⟩, ⟨false, []⟩⟩⟩ : Reach)))).bind fun x_26 =>
    some x_26
    : Option (List Reach)).bind fun L4 =>
   guardO (L2.length + [L4].length ≤ 4294967296) <|
   some (L2 ++ [L4])
   : Option (List (List Reach))).bind fun L3 =>
  some (.inl ((IntKind.i64.wrap (k1 + 1)), L3))
  )
  (
  some (.inr L2)
  )
noncomputable def m_cocketref01_reaches (n1 : Int) (l1 : (List Offer)) (to1 : Int) (most1 : Int) : Option (List (List Reach)) :=
 guardO (0 ≤ n1 ∧ n1 ≤ 4294967296) <|
 (m_cocketref01_Frac 1 1).bind fun r1 =>
 (idx (List.replicate (n1).toNat (⟨false, ⟨⟨false, []⟩, ⟨false, []⟩⟩⟩ : Reach)) to1).bind fun e1 =>
 (
  (iter (m_cocketref01_reaches_l1 n1 l1 most1) (1, [((List.replicate (n1).toNat (⟨false, ⟨⟨false, []⟩, ⟨false, []⟩⟩⟩ : Reach)).set (to1).toNat (⟨true, r1⟩ : Reach))])).bind fun x_13 =>
  some x_13
  : Option (List (List Reach))).bind fun L1 =>
 some L1
noncomputable def m_cocketref01_gains (q1 : Q) (r1 : Reach) : Option Bool :=
 ((cond r1.Is
  (
   (m_cocketref01_Mul q1 r1.Rate).bind fun r2 =>
   (m_cocketref01_Frac 1 1).bind fun r3 =>
   (m_cocketref01_Cmp r2 r3).bind fun r4 =>
   some (decide (0 < r4))
  )
  (some false)
 ) : Option Bool).bind fun b1 =>
 some b1
noncomputable def m_cocketref01_closed_l2 (l1 : (List Offer)) (r1 : (List (List Reach))) (k1 : Int) (e6 : Offer) : (Int × (List Int) × Q) → Option ((Int × (List Int) × Q) ⊕ ((List Int) × Q)) := fun (i1, L3, c2) =>
 cond (decide (i1 < (l1.length : Int)))
  (
  (idx l1 i1).bind fun e7 =>
  cond (decide (e7.From = e6.To))
   (
   (m_cocketref01_rate e7).bind fun r4 =>
   (m_cocketref01_Mul c2 r4).bind fun r5 =>
   (idx r1 (IntKind.i64.wrap ((IntKind.i64.wrap (k1 - (L3.length : Int))) - 1))).bind fun e8 =>
   (idx e8 e7.To).bind fun e9 =>
   (m_cocketref01_gains r5 e9).bind fun r6 =>
   cond r6
    (
    (idx l1 i1).bind fun e10 =>
    (m_cocketref01_rate e10).bind fun r7 =>
    (m_cocketref01_Mul c2 r7).bind fun r8 =>
    guardO (L3.length + [i1].length ≤ 4294967296) <|
    some (.inr ((L3 ++ [i1]), r8))
    )
    (
    some (.inl ((IntKind.i64.wrap (i1 + 1)), L3, c2))
    )
   )
   (
   some (.inl ((IntKind.i64.wrap (i1 + 1)), L3, c2))
   )
  )
  (
  some (.inr (L3, c2))
  )
noncomputable def m_cocketref01_closed_l1 (l1 : (List Offer)) (r1 : (List (List Reach))) (k1 : Int) : ((List Int) × Q) → Option (((List Int) × Q) ⊕ (List Int)) := fun (L2, c1) =>
 cond (decide ((L2.length : Int) < k1))
  (
  (idx L2 (IntKind.i64.wrap ((L2.length : Int) - 1))).bind fun e5 =>
  (idx l1 e5).bind fun e6 =>
  (iter (m_cocketref01_closed_l2 l1 r1 k1 e6) (0, L2, c1)).bind fun x_43 =>
  some (.inl x_43)
  )
  (
  some (.inr L2)
  )
noncomputable def m_cocketref01_closed (l1 : (List Offer)) (r1 : (List (List Reach))) (first1 : Int) (k1 : Int) : Option ((List Int) × Bool) :=
 (idx l1 first1).bind fun e1 =>
 (m_cocketref01_rate e1).bind fun r2 =>
 (idx r1 (IntKind.i64.wrap (k1 - 1))).bind fun e2 =>
 (idx l1 first1).bind fun e3 =>
 (idx e2 e3.To).bind fun e4 =>
 (m_cocketref01_gains r2 e4).bind fun r3 =>
 cond (!r3)
  (
  some ([], false)
  )
  (
  (
   (iter (m_cocketref01_closed_l1 l1 r1 k1) ([first1], r2)).bind fun x_27 =>
   some x_27
   : Option (List Int)).bind fun L1 =>
  some (L1, true)
  )
noncomputable def m_cocketref01_gaining_l1 (n1 : Int) (l1 : (List Offer)) : (Int × (List (List (List Reach)))) → Option ((Int × (List (List (List Reach)))) ⊕ (List (List (List Reach)))) := fun (s1, L2) =>
 cond (decide (s1 < n1))
  (
  (m_cocketref01_reaches n1 l1 s1 n1).bind fun r1 =>
  guardO (L2.length + [r1].length ≤ 4294967296) <|
  some (.inl ((IntKind.i64.wrap (s1 + 1)), (L2 ++ [r1])))
  )
  (
  some (.inr L2)
  )
noncomputable def m_cocketref01_gaining_l3 (l1 : (List Offer)) (L1 : (List (List (List Reach)))) (k1 : Int) : Int → Option (Int ⊕ (Unit ⊕ ((List Int) × Bool))) := fun i1 =>
 cond (decide (i1 < (l1.length : Int)))
  (
  (idx l1 i1).bind fun e1 =>
  (idx L1 e1.From).bind fun e2 =>
  (m_cocketref01_closed l1 e2 i1 k1).bind fun r2 =>
  cond r2.2
   (
   some (.inr (.inr (r2.1, true)))
   )
   (
   some (.inl (IntKind.i64.wrap (i1 + 1)))
   )
  )
  (
  some (.inr (.inl ()))
  )
noncomputable def m_cocketref01_gaining_l2 (n1 : Int) (l1 : (List Offer)) (L1 : (List (List (List Reach)))) : Int → Option (Int ⊕ (Unit ⊕ ((List Int) × Bool))) := fun k1 =>
 cond (decide (k1 ≤ n1))
  (
  (
  (
   (
   (iter (m_cocketref01_gaining_l3 l1 L1 k1) 0).bind fun x_30 => match x_30 with
     | (.inl y1) => some (.inl y1)
     | (.inr y2) => some (.inr y2)
   )
   : Option (Unit ⊕ ((List Int) × Bool))).bind fun o_24 => match o_24 with
    | (.inl _) =>
      some (.inl (IntKind.i64.wrap (k1 + 1)))
    | (.inr y3) => some (.inr (.inr y3))
  )
  )
  (
  some (.inr (.inl ()))
  )
noncomputable def m_cocketref01_gaining (n1 : Int) (l1 : (List Offer)) : Option ((List Int) × Bool) :=
 (
  (iter (m_cocketref01_gaining_l1 n1 l1) (0, [])).bind fun x_7 =>
  some x_7
  : Option (List (List (List Reach)))).bind fun L1 =>
 (
 (
  (
  (iter (m_cocketref01_gaining_l2 n1 l1 L1) 2).bind fun x_20 => match x_20 with
    | (.inl y4) => some (.inl y4)
    | (.inr y5) => some (.inr y5)
  )
  : Option (Unit ⊕ ((List Int) × Bool))).bind fun o_14 => match o_14 with
   | (.inl _) =>
     some ([], false)
   | (.inr y6) => some y6
 )
noncomputable def m_cocketref01_best_l1 (n1 : Int) (from1 : Int) (r1 : (List (List Reach))) : (Int × Int × Reach) → Option ((Int × Int × Reach) ⊕ (Int × Reach)) := fun (many2, k1, c2) =>
 cond (decide (k1 < n1))
  (
  (
   (idx r1 k1).bind fun e1 =>
   (idx e1 from1).bind fun e2 =>
   cond e2.Is
    (
    (m_cocketref01_better c2 e2.Rate).bind fun r2 =>
    cond r2
     (
     (idx r1 k1).bind fun e3 =>
     (idx e3 from1).bind fun e4 =>
     some (k1, e4)
     )
     (
     some (many2, c2)
     )
    )
    (
    some (many2, c2)
    )
   : Option (Int × Reach)).bind fun (many3, c3) =>
  some (.inl (many3, (IntKind.i64.wrap (k1 + 1)), c3))
  )
  (
  some (.inr (many2, c2))
  )
noncomputable def m_cocketref01_best_l3 (l1 : (List Offer)) (r1 : (List (List Reach))) (many1 : Int) (at1 : Int) : (Int × (List Int) × Q) → Option ((Int × (List Int) × Q) ⊕ (Int × (List Int) × Q)) := fun (i1, L3, c5) =>
 cond (decide (i1 < (l1.length : Int)))
  (
  (idx r1 (IntKind.i64.wrap ((IntKind.i64.wrap (many1 - (L3.length : Int))) - 1))).bind fun e7 =>
  (idx l1 i1).bind fun e8 =>
  (idx e7 e8.To).bind fun e9 =>
  (idx l1 i1).bind fun e10 =>
  cond (decide (e10.From = at1))
   (
   cond e9.Is
    (
    (m_cocketref01_rate e10).bind fun r3 =>
    (m_cocketref01_Mul r3 e9.Rate).bind fun r4 =>
    (m_cocketref01_Cmp r4 c5).bind fun r5 =>
    cond (decide (r5 = 0))
     (
     guardO (L3.length + [i1].length ≤ 4294967296) <|
     (idx l1 i1).bind fun e11 =>
     some (.inr (e11.To, (L3 ++ [i1]), e9.Rate))
     )
     (
     some (.inl ((IntKind.i64.wrap (i1 + 1)), L3, c5))
     )
    )
    (
    some (.inl ((IntKind.i64.wrap (i1 + 1)), L3, c5))
    )
   )
   (
   some (.inl ((IntKind.i64.wrap (i1 + 1)), L3, c5))
   )
  )
  (
  some (.inr (at1, L3, c5))
  )
noncomputable def m_cocketref01_best_l2 (l1 : (List Offer)) (r1 : (List (List Reach))) (many1 : Int) : (Int × (List Int) × Q) → Option ((Int × (List Int) × Q) ⊕ (List Int)) := fun (at1, L2, c4) =>
 cond (decide ((L2.length : Int) < many1))
  (
  (iter (m_cocketref01_best_l3 l1 r1 many1 at1) (0, L2, c4)).bind fun x_58 =>
  some (.inl x_58)
  )
  (
  some (.inr L2)
  )
noncomputable def m_cocketref01_best (n1 : Int) (l1 : (List Offer)) (from1 : Int) (to1 : Int) : Option (Q × (List Int) × Bool) :=
 (m_cocketref01_reaches n1 l1 to1 (IntKind.i64.wrap (n1 - 1))).bind fun r1 =>
 (
  (iter (m_cocketref01_best_l1 n1 from1 r1) (0, 0, (⟨false, (⟨(⟨false, []⟩ : Big), (⟨false, []⟩ : Big)⟩ : Q)⟩ : Reach))).bind fun x_8 =>
  some x_8
  : Option (Int × Reach)).bind fun (many1, c1) =>
 cond (!c1.Is)
  (
  some ((⟨(⟨false, []⟩ : Big), (⟨false, []⟩ : Big)⟩ : Q), [], false)
  )
  (
  (
   (iter (m_cocketref01_best_l2 l1 r1 many1) (from1, [], c1.Rate)).bind fun x_50 =>
   some x_50
   : Option (List Int)).bind fun L1 =>
  some (c1.Rate, L1, true)
  )
noncomputable def m_cocketref01_Within_l1 (a1 : Big) : (Int × Int) → Option ((Int × Int) ⊕ Int) := fun (n2, i1) =>
 cond (decide (0 ≤ i1))
  (
  (idx a1.D i1).bind fun e1 =>
  some (.inl ((IntKind.i64.wrap ((IntKind.i64.wrap (n2 * 10000)) + e1)), (IntKind.i64.wrap (i1 - 1))))
  )
  (
  some (.inr n2)
  )
noncomputable def m_cocketref01_Within (a1 : Big) (most1 : Int) : Option (Int × Bool) :=
 (m_cocketref01_Of most1).bind fun r1 =>
 (m_cocketref01_cmpD a1.D r1.D).bind fun r2 =>
 cond (decide (0 < r2))
  (
  some (0, false)
  )
  (
  (
   (iter (m_cocketref01_Within_l1 a1) (0, (IntKind.i64.wrap ((a1.D.length : Int) - 1)))).bind fun x_11 =>
   some x_11
   : Option Int).bind fun n1 =>
  (
   cond a1.Neg
    (
    some (IntKind.i64.wrap (0 - n1))
    )
    (
    some n1
    )
   : Option Int).bind fun n3 =>
  some (n3, true)
  )
noncomputable def m_cocketref01_ToRatio (a1 : Q) (most1 : Int) : Option (Ratio × Bool) :=
 (m_cocketref01_Within a1.N most1).bind fun r1 =>
 (m_cocketref01_Within a1.D most1).bind fun r2 =>
 cond ((!r1.2) || (!r2.2))
  (
  some ((⟨0, 0⟩ : Ratio), false)
  )
  (
  some ((⟨r1.1, r2.1⟩ : Ratio), true)
  )
noncomputable def m_cocketref01_Best (n1 : Int) (l1 : (List Offer)) (from1 : Int) (to1 : Int) : Option (Ratio × (List Int) × Int) :=
 (m_cocketref01_Good n1 l1).bind fun r1 =>
 cond (decide (¬r1 = 0))
  (
  some ((⟨0, 0⟩ : Ratio), [], r1)
  )
  (
  cond ((((decide (from1 < 0)) || (decide (n1 ≤ from1))) || (decide (to1 < 0))) || (decide (n1 ≤ to1)))
   (
   some ((⟨0, 0⟩ : Ratio), [], 2)
   )
   (
   (m_cocketref01_gaining n1 l1).bind fun r2 =>
   cond r2.2
    (
    some ((⟨0, 0⟩ : Ratio), [], 11)
    )
    (
    (m_cocketref01_best n1 l1 from1 to1).bind fun r3 =>
    cond (!r3.2.2)
     (
     some ((⟨0, 0⟩ : Ratio), [], 10)
     )
     (
     (m_cocketref01_ToRatio r3.1 1152921504606846976).bind fun r4 =>
     some (r4.1, r3.2.1, 0)
     )
    )
   )
  )
noncomputable def m_cocketlaw01_offers_l1 (a1 : (List Offer)) (b1 : (List Offer)) : Int → Option (Int ⊕ (Unit ⊕ Bool)) := fun i1 =>
 cond (decide (i1 < (a1.length : Int)))
  (
  (idx a1 i1).bind fun e1 =>
  (idx b1 i1).bind fun e2 =>
  cond (!((e1.From == e2.From) && ((e1.To == e2.To) && ((e1.Num == e2.Num) && (e1.Den == e2.Den)))))
   (
   some (.inr (.inr false))
   )
   (
   some (.inl (IntKind.i64.wrap (i1 + 1)))
   )
  )
  (
  some (.inr (.inl ()))
  )
noncomputable def m_cocketlaw01_offers (a1 : (List Offer)) (b1 : (List Offer)) : Option Bool :=
 cond (decide (¬(a1.length : Int) = (b1.length : Int)))
  (
  some false
  )
  (
  (
  (
   (
   (iter (m_cocketlaw01_offers_l1 a1 b1) 0).bind fun x_9 => match x_9 with
     | (.inl y1) => some (.inl y1)
     | (.inr y2) => some (.inr y2)
   )
   : Option (Unit ⊕ Bool)).bind fun o_3 => match o_3 with
    | (.inl _) =>
      some true
    | (.inr y3) => some y3
  )
  )
noncomputable def m_rate_gcd_l1 : (Int × Int) → Option ((Int × Int) ⊕ Int) := fun (a3, b2) =>
 cond (decide (¬b2 = 0))
  (
  guardO (b2 ≠ 0) <|
  some (.inl (b2, (a3.tmod b2)))
  )
  (
  some (.inr a3)
  )
noncomputable def m_rate_gcd (a1 : Int) (b1 : Int) : Option Int :=
 (
  (iter m_rate_gcd_l1 (a1, b1)).bind fun x_7 =>
  some x_7
  : Option Int).bind fun a2 =>
 some a2
noncomputable def m_rate_times (a1 : Ratio) (b1 : Ratio) : Option Ratio :=
 (m_rate_gcd a1.Num b1.Den).bind fun r1 =>
 (m_rate_gcd b1.Num a1.Den).bind fun r2 =>
 guardO (r1 ≠ 0) <|
 guardO (r2 ≠ 0) <|
 guardO (r2 ≠ 0) <|
 guardO (r1 ≠ 0) <|
 some (⟨(IntKind.i64.wrap ((IntKind.i64.wrap (a1.Num.tdiv r1)) * (IntKind.i64.wrap (b1.Num.tdiv r2)))), (IntKind.i64.wrap ((IntKind.i64.wrap (a1.Den.tdiv r2)) * (IntKind.i64.wrap (b1.Den.tdiv r1))))⟩ : Ratio)
noncomputable def m_rate_ratio (a1 : Int) (b1 : Int) : Option Ratio :=
 (m_rate_gcd a1 b1).bind fun r1 =>
 guardO (r1 ≠ 0) <|
 guardO (r1 ≠ 0) <|
 some (⟨(IntKind.i64.wrap (a1.tdiv r1)), (IntKind.i64.wrap (b1.tdiv r1))⟩ : Ratio)
end Go.Pv

