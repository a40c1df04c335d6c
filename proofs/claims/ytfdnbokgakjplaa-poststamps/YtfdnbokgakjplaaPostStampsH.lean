/- PostStamps answers true for every input, and its arguments read as they did: as its row says (Rows), under the conditions of the row, no more. Part 8 of 8: by one AI agent and its programs; no person has read it. -/
import Derived.Test.YtfdnbokgakjplaaPostStampsA
import Derived.Test.YtfdnbokgakjplaaPostStampsB
import Derived.Test.YtfdnbokgakjplaaPostStampsC
import Derived.Test.YtfdnbokgakjplaaPostStampsD
import Derived.Test.YtfdnbokgakjplaaPostStampsE
import Derived.Test.YtfdnbokgakjplaaPostStampsF
import Derived.Test.YtfdnbokgakjplaaPostStampsG
import Derived.ProofKit
import Derived.Deep.Slices
import Derived.LaidMore
import Derived.OpenShut
import Derived.Stop.Joined
import Derived.WideKeyArgs
import Derived.Deep.OwnRows
import Derived.Test.YtfdnbokgakjplaaRows
set_option linter.unusedSimpArgs false
set_option linter.unusedVariables false
set_option linter.all false

namespace Go.Pv
open Go Go.ChangeShapes Go.WideShapes Go.ChangeAt Go.RowKit
def Base.top (P : Program) (W : World) : Base P where
  w0 := W
  X := fun _ _ => False
  hX := fun _ _ h => h.elim
  o0 := fun _ => False
  φ0 := fun _ => none
  z0 := fun _ => 0
  ro := none
  held := []
  hheld := fun _ => rfl
  J := fun _ _ _ _ => True
  stab := fun _ _ _ _ _ _ _ _ _ _ _ _ _ => trivial
  y := none
  yok := fun _ _ h => by cases h
def inW (w : World) (b _k : Nat) : Prop := b < w.heap.size
theorem okd_top {w : World} {b k : Nat} (h : inW w b k) : okd w (fun _ _ => False) Nm.no [] b k :=
  ⟨h, fun h => h, fun h => h.elim (fun ⟨_, _, h, _⟩ => by cases h) fun h => h⟩
def GlobTop (G : List (Nat × PD)) (w : World) : Prop :=
  ∀ g x, (g, x) ∈ G → ∃ c e f v, w.heap[g]? = some (.cells c e f) ∧ RepD w (inW w) v x ∧ v.cells.size = c.size ∧ ∀ j, j < v.cells.size → c[j]? = some (v.cells.getD j undef) ∧ flat (v.cells.getD j undef) = true
theorem own_top (b : Nat) : ¬ own Nm.no [] b := fun h => h.elim (fun ⟨_, _, h, _⟩ => by cases h) fun h => h
theorem calls_of_pure {P : Program} {G : List (Nat × PD)} {f : FuncId} {args : List PD} {b : Bool} (h : PureFn P G f (args.map .d) (.d (.bool b))) {W : World} {vs : List Value} (hl : vs.length = args.length)
    (hv : ∀ i (hi : i < args.length), RepD W (inW W) (vs.getD i undef) args[i]) (hG : GlobTop G W) :
    Calls P f vs.toArray W fun e W' => e = .returned (.bool b) ∧ Keeps (fun _ => False) W W' := by
  have key := h (Base.top P W) Nm.no vs rfl (by simpa using hl) (fun i hi => by
    have hi' : i < args.length := by simpa using hi
    have e : (args.map PV.d)[i] = .d args[i] := by simp
    rw [e]
    exact .d ((hv i hi').mono' (fun _ _ h => okd_top h) fun _ _ _ _ _ _ h => h)) ⟨⟨fun r x b h => by simp [hget] at h, fun r x h => by simp [hget] at h, fun r s x y b h => by simp [hget] at h, fun b h => h.elim⟩, Keeps.refl _ _,
      fun r x b h => by simp [hget] at h, fun r x h => by simp [hget] at h, fun r x b h => by simp [hget] at h, fun g x hx => by
        obtain ⟨c, e, f, v, h1, h2, h3, h4⟩ := hG g x hx
        exact ⟨c, e, f, v, h1, own_top g, h2.mono' (fun _ _ h => okd_top h) fun _ _ _ _ _ _ h => h, h3, h4, fun h => h⟩, fun b h => h.elim, fun b h => h⟩
  refine callsIn_wide.1 (CallsIn.mono key ?_)
  rintro e w' ⟨v, p, H', g', φ', rfl, ⟨rfl, rfl⟩, hr, hs⟩
  cases hr with
  | d hd => cases hd; exact ⟨rfl, hs.keeps⟩
section
variable {H : Type} {enc : TypeId × Value → H} {P : Program} {w : World} {sp : Nat → Bool} {held : Bool}
def Opens (P : Program) (w : World) {α : Type} (t : TypeId) (k : Nat) (f : α → PD) : Prop :=
  P.cellsOf t = k ∧ ∀ {H : Type} (enc : TypeId × Value → H) (sp : Nat → Bool) (held : Bool) (n : Nat) (cs : List Value) (x : DataW H × List MemPlace), DataW.trod enc P w 0 sp held n t cs = some x → w.noneFrozen x.2 →
    ∃ (v : Value) (a : α), v.cells.toList = cs ∧ RepD w (inW w) v (f a) ∧ v.cells.size = k ∧ ∀ j, j < k → flat (v.cells.getD j undef) = true
theorem rep_slice {α : Type} [Inhabited α] {t e : TypeId} {k n : Nat} {f : α → PD} {v : Value} {x : DataW H × List MemPlace} (ht : P.underlying t = some (.slice e)) (he : Opens P w e k f) (hk : 0 < k) (h : DataW.trod enc P w 0 sp held n t [v] = some x) (hnf : w.noneFrozen x.2) : ∃ l : List α, RepD w (inW w) v (.imm k (lenc f l)) := by
  rcases Go.Deep.open_slice ht h with ⟨h1, _⟩ | ⟨a, len, cap, m, n', D, Pl, h1, _, hl, _, hm, hxe, hx⟩
  · simp only [List.cons.injEq, and_true] at h1
    subst h1
    exact ⟨[], .imm0 k⟩
  · simp only [List.cons.injEq, and_true] at h1
    subst h1
    have hlm : len ≤ m := by rw [hm]; split <;> omega
    rw [he.1] at hx
    have h2 : ∀ i, i < len → ∃ y : Value × α, (y.1.cells.toList.length = k ∧ w.cells? 0 (a.add (i * k)) k = some y.1.cells.toList) ∧ RepD w (inW w) y.1 (f y.2) ∧ y.1.cells.size = k ∧ ∀ j, j < k → flat (y.1.cells.getD j undef) = true := fun i hi => by
      obtain ⟨cs', h3, h4⟩ := hx i (by omega)
      obtain ⟨v, b, h5, h6, h7, h8⟩ := he.2 enc sp held n' cs' _ h4 (fun b o hm => hnf b o (by rw [hxe]; exact List.mem_append_right _ (List.mem_flatMap.2 ⟨i, List.mem_range.2 (by omega), hm⟩)))
      exact ⟨(v, b), ⟨by simp [h7], by rw [h5]; exact h3⟩, h6, h7, h8⟩
    have hsp : 0 < len → a.spot = none := fun hpos => by
      obtain ⟨y, ⟨h3, h4⟩, _⟩ := h2 0 hpos
      simp only [World.cells?, Nat.zero_le, if_true] at h4
      have := mapM_some_get h4 0 0 (by simp [hk])
      rw [Nat.zero_mul] at this
      have e : (a.add 0).add 0 = a := by simp [Addr.add]
      rw [e, List.getElem?_eq_getElem (by rw [h3]; exact hk)] at this
      unfold World.cell? at this
      split at this
      · split at this
        · cases this
        · rename_i hn
          cases hs : a.spot with
          | none => rfl
          | some s => rw [hs] at hn; exact absurd rfl hn
      · cases this
    have : Inhabited (Value × α) := ⟨(undef, default)⟩
    obtain ⟨Y, hY⟩ := Go.Deep.choose_lt h2
    have hcell : ∀ i, i < len → ∀ j, j < k → w.cell? ⟨a.block, a.off + i * k + j, none⟩ = some ((Y i).1.cells.getD j undef) := fun i hi j hj => by
      obtain ⟨⟨h3, h4⟩, h5, h6, _⟩ := hY i hi
      simp only [World.cells?, Nat.zero_le, if_true] at h4
      have := mapM_some_get h4 j j (by simp [hj])
      rw [Go.Deep.add_add] at this
      have e1 : a.add (i * k + j) = ⟨a.block, a.off + i * k + j, none⟩ := by
        have hsp := hsp (by omega)
        obtain ⟨b, o, s⟩ := a
        dsimp only at hsp
        subst hsp
        simp only [Addr.add]
        split
        · rename_i h0
          have e2 : o + i * k + j = o := by omega
          rw [e2]
        · rw [Nat.add_assoc]
      rw [e1] at this
      rw [this, List.getElem?_eq_getElem (by rw [h3]; exact hj)]
      simp [Array.getD, h6, hj]
    have hpos : lenc f ((List.range len).map fun i => (Y i).2) ≠ [] → 0 < len := fun hne => by
      rcases Nat.eq_zero_or_pos len with h | h
      · subst h; simp [lenc] at hne
      · exact h
    refine ⟨(List.range len).map fun i => (Y i).2, .imm (fun i => (Y i).1) (fun hne => hsp (hpos hne)) (fun hne => ?_) (by simp [lenc]) hl (fun i hi => ?_) (fun i hi => ?_) (fun i hi => ?_) (fun i hi => ?_) (fun i hi j hj _ => hnf _ _ ?_)⟩
    rotate_right
    · have hi' : i < len := by simpa [lenc] using hi
      rw [hxe]
      refine List.mem_append_left _ (List.mem_map.2 ⟨i * k + j, List.mem_range.2 ?_, by rw [Nat.add_assoc]⟩)
      rw [he.1]
      have h1 : (i + 1) * k ≤ m * k := Nat.mul_le_mul_right _ (by omega)
      rw [Nat.add_mul, Nat.one_mul] at h1
      omega
    · have hlen : 0 < len := by
        rcases Nat.eq_zero_or_pos len with h | h
        · subst h; simp [lenc] at hne
        · exact h
      exact World.block_lt_of_cell? w ⟨a.block, a.off + 0 * k + 0, none⟩ (hcell 0 hlen 0 hk)
    · have hi' : i < len := by simpa [lenc] using hi
      have := (hY i hi').2.1
      simpa [lenc] using this
    · exact (hY i (by simpa [lenc] using hi)).2.2.1
    · exact (hY i (by simpa [lenc] using hi)).2.2.2
    · exact hcell i (by simpa [lenc] using hi)
theorem rep_arg_slice {α : Type} [Inhabited α] {r : Reach} {b0 : Nat} {t e : TypeId} {k : Nat} {f : α → PD} {v : Value} {d : DataW H} {p : List MemPlace} (ht : P.underlying t = some (.slice e)) (he : Opens P w e k f) (hk : 0 < k)
    (hval : Value.okWide P w r b0 t v) (h : DataW.Trod enc P w 0 sp held t v d p) (hnf : w.noneFrozen p) : ∃ l : List α, RepD w (inW w) v (.imm k (lenc f l)) := by
  obtain ⟨a0, len, cap, rfl⟩ := okWide_slice ht hval
  obtain ⟨n, hn⟩ := h
  simp only [Value.cells] at hn
  exact rep_slice ht he hk hn hnf
theorem rep_arg_int {r : Reach} {b0 : Nat} {t : TypeId} {k : IntKind} {v : Value} (ht : P.underlying t = some (.int k)) (hval : Value.okWide P w r b0 t v) : ∃ n, RepD w (inW w) v (.int k n) := by
  obtain ⟨n, rfl⟩ := okWide_int ht hval
  exact ⟨n, .int k n⟩
theorem Keeps.since {w' : World} (h : Keeps (fun _ => False) w w') : w.Since w.heap.size w' :=
  ⟨h.os, h.tape, h.output, h.size, fun k hk => h.block k hk fun h => h⟩
theorem trodAll_stays {w' : World} {sp' : Nat → Bool} (hl : laidOutB P = true) : ∀ {ts : List TypeId} {vs : List Value} {ds : List (DataW H)} {ps : List MemPlace}, (ts.all fun t => P.readableRec t && decide (t < P.types.size)) = true →
    DataW.TrodAll enc P w 0 (fun _ => true) true ts vs ds ps → (∀ p ∈ ps, w.sameAt w' p) → (∀ p ∈ ps, sp' p.block = true) → DataW.TrodAll enc P w' 0 sp' true ts vs ds ps
  | [], [], [], _, _, h, _, _ => h
  | [], [], _ :: _, _, _, h, _, _ => h.elim
  | [], _ :: _, _, _, _, h, _, _ => h.elim
  | _ :: _, [], _, _, _, h, _, _ => h.elim
  | _ :: _, _ :: _, [], _, _, h, _, _ => h.elim
  | t :: ts, v :: vs, d :: ds, _, ht, ⟨p, q, h1, h2, e⟩, hs, hp => by
    subst e
    rw [List.all_cons, Bool.and_eq_true, Bool.and_eq_true, decide_eq_true_eq] at ht
    exact ⟨p, q, WideElems.Trod_stays hl ht.1.1 ht.1.2 h1 (fun x hx => hs x (List.mem_append_left _ hx)) (fun x hx => hp x (List.mem_append_left _ hx)),
      trodAll_stays hl ht.2 h2 (fun x hx => hs x (List.mem_append_right _ hx)) (fun x hx => hp x (List.mem_append_right _ hx)), rfl⟩
theorem law_post {f : Func} {s : ChangeSpec} {apart fresh handsOn : Bool} {W W' : World} {args : Array Value} {ds : List (DataW H)} {before : List MemPlace} {t : TypeId} (hv : s.vars = [])
    (hW : DataW.Whole enc P f.params.toList [] apart W args.toList ds [] before) (hs : Keeps (fun _ => False) W W') (e : s.fn H (ds ++ []) = { results := [.lit (.bool true)], args := ds })
    (hr : f.resultTypes = #[t]) (ht : P.underlying t = some .bool) (hl : laidOutB P = true) (hrec : (f.params.toList.all fun t => P.readableRec t && decide (t < P.types.size)) = true) :
    s.post enc P f apart fresh handsOn false W args (.bool true) W' := by
  have hlt := hW.lt
  have hW2 := hW
  obtain ⟨p, q, hA, hV, hpq, _, _⟩ := hW2
  have hlt' : ∀ x ∈ p, x.block < W.heap.size := fun x hx => hlt x (by rw [hpq]; exact List.mem_append_left _ hx)
  refine ⟨ds, [], before, [], p, [], by rw [hv]; exact hW, ?_, ?_, ?_, (Keeps.since hs).frame _, fun h => by cases h⟩
  · rw [e, hr]
    exact trodAll_mk1 (shut_bool ht _)
  · rw [e]
    exact trodAll_stays hl hrec hA (fun x hx => (Keeps.since hs).sameAt (hlt' x hx)) (fun x hx => by simpa using hlt' x hx)
  · rw [e, hv]
    rfl
end
end Go.Pv

namespace Go.Pv
open Go Go.ChangeShapes Go.WideShapes Go.ChangeAt Go.RowKit
section
variable {H : Type} {enc : TypeId × Value → H} {P : Program} {w : World} {sp : Nat → Bool} {held : Bool}
end
end Go.Pv
namespace Go.Pv.Try
open Go Go.Proofs Go.Pv Go.ChangeShapes Go.WideShapes Go.ChangeAt Go.RowKit
theorem own : ownKnob Try.prog.godebug = none := by kernel_rfl
theorem laidOut : laidOutB Try.prog = true := by kernel_rfl
theorem globs (W : World) : GlobTop G W := fun g x h => by cases h
theorem len3 {α : Type} {l : List α} (h : l.length = 3) : ∃ a0 a1 a2, l = [a0, a1, a2] := by
  rcases l with _ | ⟨a0, _ | ⟨a1, _ | ⟨a2, _ | ⟨z, l⟩⟩⟩⟩
  · cases h
  · cases h
  · cases h
  · exact ⟨a0, a1, a2, rfl⟩
  · simp at h
set_option maxRecDepth 100000 in
theorem opens_Act {w : World} : Opens Try.prog w 44 3 Act.pd := by
  refine ⟨by kernel_rfl, fun enc sp held n cs x h _ => ?_⟩
  obtain ⟨xs, m, _, _, hl, hx, hf⟩ := DataW.trod_struct Try.underlying44 h
  have c0 : Try.prog.cellsOf 44 = 3 := by kernel_rfl
  have c_3 : Try.prog.cellsOf 3 = 1 := by kernel_rfl
  have c_5 : Try.prog.cellsOf 5 = 1 := by kernel_rfl
  rw [c0] at hl
  have hx2 : xs.length = 3 := hx
  obtain ⟨a0, a1, a2, rfl⟩ := len3 hl
  obtain ⟨x0, x1, x2, rfl⟩ := len3 hx2
  clear hl hx hx2
  have f0 : DataW.trod enc Try.prog w 0 sp held m 5 (([a0, a1, a2].drop 0).take (Try.prog.cellsOf 5)) = some x0 := hf 0 _ rfl
  have f1 : DataW.trod enc Try.prog w 0 sp held m 3 (([a0, a1, a2].drop 1).take (Try.prog.cellsOf 3)) = some x1 := hf 1 _ rfl
  have f2 : DataW.trod enc Try.prog w 0 sp held m 3 (([a0, a1, a2].drop 2).take (Try.prog.cellsOf 3)) = some x2 := hf 2 _ rfl
  rw [c_5] at f0
  rw [c_3] at f1
  rw [c_3] at f2
  obtain ⟨m0, e0, _⟩ := DataW.trod_int Try.underlying5 f0
  obtain ⟨m1, e1, _⟩ := DataW.trod_int Try.underlying3 f1
  obtain ⟨m2, e2, _⟩ := DataW.trod_int Try.underlying3 f2
  simp at e0 e1 e2
  subst e0 e1 e2
  refine ⟨.agg #[.int .u8 m0, .int .i64 m1, .int .i64 m2], ⟨m0, m1, m2⟩, rfl, .agg rfl (fun i hi => ?_) (fun i hi => ?_), rfl, fun j hj => ?_⟩
  · match i, hi with
    | 0, _ => exact .int .u8 m0
    | 1, _ => exact .int .i64 m1
    | 2, _ => exact .int .i64 m2
  · match i, hi with
    | 0, _ => rfl
    | 1, _ => rfl
    | 2, _ => rfl
  · match j, hj with
    | 0, _ => rfl
    | 1, _ => rfl
    | 2, _ => rfl
end Go.Pv.Try

namespace Go.Pv.Try
open Go Go.Proofs Go.Pv Go.ChangeShapes Go.WideShapes Go.ChangeAt Go.RowKit Go.Proofs.Ytfdnbokgakjplaa
set_option maxRecDepth 100000 in
theorem stamps_lifted (os : Os) (started : os.Started) (H : Type) (enc : TypeId × Value → H) :
    ReturnsInHanded {} Try.checked os 4 .any (Rows.postStampsSpec.pre6 enc Try.prog Try.f4 [] false) (Rows.postStampsSpec.post enc Try.prog Try.f4 false true false false) := by
  refine returnsInHanded_of_change (C := Try.checked) own started (by kernel_rfl) Try.func4
    (ChangeSpec.witness6 (enc := enc) (C := Try.checked) false ⟨#[], #[.int .i64 0, .slice none 0 0], []⟩ 8 (by kernel_rfl) (by kernel_rfl) (by kernel_rfl) (by kernel_rfl)) ?_
  intro W base args ds gs before hval0 hW _ _
  have hval : ∀ (j : Nat) t v, Try.f4.params[j]? = some t → args[j]? = some v → Value.okWide Try.prog W .any base t v := hval0
  have hW' := hW
  obtain ⟨p, q, hA0, hV, rfl, hfz, hnd⟩ := hW
  have hA : DataW.TrodAll enc Try.prog W 0 (fun _ => true) true Try.f4.params.toList args.toList ds p := hA0
  obtain ⟨rfl, rfl⟩ := trodVars_none hV
  rw [Try.params4] at hA hval
  obtain ⟨v0, vs0, d0, ds0, p0, q0, ha, rfl, rfl, t0, hA⟩ := trodAll_cons hA
  obtain ⟨v1, vs1, d1, ds1, p1, q1, rfl, rfl, rfl, t1, hA⟩ := trodAll_cons hA
  obtain ⟨rfl, rfl, rfl⟩ := trodAll_nil hA
  have hargs : args = #[v0, v1] := Array.toList_inj.1 ha
  subst hargs
  obtain ⟨x0, r0⟩ := rep_arg_int Try.underlying3 (hval 0 3 v0 rfl rfl)
  obtain ⟨x1, r1⟩ := rep_arg_slice Try.underlying39 opens_Act (by decide) (hval 1 39 v1 rfl rfl) t1 (fun b o h => hfz b o (by simp [h]))
  have hw := calls_of_pure (args := [.int .i64 x0, .imm 3 (lenc Act.pd x1)]) (vs := [v0, v1]) (m_cocketlaw09_PostStamps_ok x0 x1 true (PostStamps_law x0 x1)) rfl (fun i hi => by
    match i, hi with
    | 0, _ => exact r0
    | 1, _ => exact r1) (globs W)
  refine hw.mono fun e W' ⟨he, hs⟩ => ?_
  subst he
  exact ⟨_, rfl, law_post rfl hW' hs rfl (t := 4) (by rfl) Try.underlying4 laidOut (by kernel_rfl)⟩
theorem stamps_said : Rows.PostStampsSaid :=
  OpenClaim.holds_of_wide 4 Try.f4 rfl rfl rfl rfl rfl rfl rfl ⟨rfl, rfl, rfl, rfl, rfl⟩ rfl rfl rfl rfl rfl (by kernel_rfl) Try.func4 (by kernel_rfl)
    (of_decide_eq_true (by kernel_rfl)) (by unfold Func.isWrapper; first | (rw [if_pos (by decide +kernel)]; kernel_rfl) | (rw [if_neg (by decide +kernel)]; exact ⟨rfl, rfl⟩))
    (fun os started H enc _ => stamps_lifted os started H enc)
end Go.Pv.Try

namespace Go.Proofs.Ytfdnbokgakjplaa

theorem stamps_said : Rows.PostStampsSaid := Go.Pv.Try.stamps_said

#print axioms stamps_said

end Go.Proofs.Ytfdnbokgakjplaa
