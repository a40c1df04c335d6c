/- PostLimits answers true for every input, and its arguments read as they did: as its row says (Rows), under the conditions of the row, no more. Part 7 of 7: by one AI agent and its programs; no person has read it. -/
import Derived.Test.YtfdnbokgakjplaaPostLimitsA
import Derived.Test.YtfdnbokgakjplaaPostLimitsB
import Derived.Test.YtfdnbokgakjplaaPostLimitsC
import Derived.Test.YtfdnbokgakjplaaPostLimitsD
import Derived.Test.YtfdnbokgakjplaaPostLimitsE
import Derived.Test.YtfdnbokgakjplaaPostLimitsF
import Derived.ProofKit
import Derived.Deep.Slices
import Derived.LaidMore
import Derived.OpenShut
import Derived.Stop.Joined
import Derived.WideKeyArgs
import Derived.Deep.OwnRows
import Derived.Test.YtfdnbokgakjplaaRows
set_option linter.unusedSimpArgs false
set_option linter.unusedVariables false
set_option linter.all false

namespace Go.Pv
open Go Go.ChangeShapes Go.WideShapes Go.ChangeAt Go.RowKit
def Base.top (P : Program) (W : World) : Base P where
  w0 := W
  X := fun _ _ => False
  hX := fun _ _ h => h.elim
  o0 := fun _ => False
  φ0 := fun _ => none
  z0 := fun _ => 0
  ro := none
  held := []
  hheld := fun _ => rfl
  J := fun _ _ _ _ => True
  stab := fun _ _ _ _ _ _ _ _ _ _ _ _ _ => trivial
  y := none
  yok := fun _ _ h => by cases h
def inW (w : World) (b _k : Nat) : Prop := b < w.heap.size
theorem okd_top {w : World} {b k : Nat} (h : inW w b k) : okd w (fun _ _ => False) Nm.no [] b k :=
  ⟨h, fun h => h, fun h => h.elim (fun ⟨_, _, h, _⟩ => by cases h) fun h => h⟩
def GlobTop (G : List (Nat × PD)) (w : World) : Prop :=
  ∀ g x, (g, x) ∈ G → ∃ c e f v, w.heap[g]? = some (.cells c e f) ∧ RepD w (inW w) v x ∧ v.cells.size = c.size ∧ ∀ j, j < v.cells.size → c[j]? = some (v.cells.getD j undef) ∧ flat (v.cells.getD j undef) = true
theorem own_top (b : Nat) : ¬ own Nm.no [] b := fun h => h.elim (fun ⟨_, _, h, _⟩ => by cases h) fun h => h
theorem calls_of_pure {P : Program} {G : List (Nat × PD)} {f : FuncId} {args : List PD} {b : Bool} (h : PureFn P G f (args.map .d) (.d (.bool b))) {W : World} {vs : List Value} (hl : vs.length = args.length)
    (hv : ∀ i (hi : i < args.length), RepD W (inW W) (vs.getD i undef) args[i]) (hG : GlobTop G W) :
    Calls P f vs.toArray W fun e W' => e = .returned (.bool b) ∧ Keeps (fun _ => False) W W' := by
  have key := h (Base.top P W) Nm.no vs rfl (by simpa using hl) (fun i hi => by
    have hi' : i < args.length := by simpa using hi
    have e : (args.map PV.d)[i] = .d args[i] := by simp
    rw [e]
    exact .d ((hv i hi').mono' (fun _ _ h => okd_top h) fun _ _ _ _ _ _ h => h)) ⟨⟨fun r x b h => by simp [hget] at h, fun r x h => by simp [hget] at h, fun r s x y b h => by simp [hget] at h, fun b h => h.elim⟩, Keeps.refl _ _,
      fun r x b h => by simp [hget] at h, fun r x h => by simp [hget] at h, fun r x b h => by simp [hget] at h, fun g x hx => by
        obtain ⟨c, e, f, v, h1, h2, h3, h4⟩ := hG g x hx
        exact ⟨c, e, f, v, h1, own_top g, h2.mono' (fun _ _ h => okd_top h) fun _ _ _ _ _ _ h => h, h3, h4, fun h => h⟩, fun b h => h.elim, fun b h => h⟩
  refine callsIn_wide.1 (CallsIn.mono key ?_)
  rintro e w' ⟨v, p, H', g', φ', rfl, ⟨rfl, rfl⟩, hr, hs⟩
  cases hr with
  | d hd => cases hd; exact ⟨rfl, hs.keeps⟩
section
variable {H : Type} {enc : TypeId × Value → H} {P : Program} {w : World} {sp : Nat → Bool} {held : Bool}
theorem rep_arg_intR {r : Reach} {b0 : Nat} {t : TypeId} {k : IntKind} {v : Value} (ht : P.underlying t = some (.int k)) (hval : Value.okWide P w r b0 t v) : ∃ n, RepD w (inW w) v (.int k n) ∧ k.min ≤ n ∧ n ≤ k.max := by
  simp only [Value.okWide, ht, Cell.okWide] at hval
  cases v <;> simp_all [Cell.ok, IntKind.has]
  rename_i k' n
  obtain ⟨rfl, h1⟩ := hval
  exact ⟨n, .int _ n, h1⟩
theorem rep_arg_bool {r : Reach} {b0 : Nat} {t : TypeId} {v : Value} (ht : P.underlying t = some .bool) (hval : Value.okWide P w r b0 t v) : ∃ b, RepD w (inW w) v (.bool b) := by
  obtain ⟨n, rfl⟩ := okWide_bool ht hval
  exact ⟨n, .bool n⟩
theorem Keeps.since {w' : World} (h : Keeps (fun _ => False) w w') : w.Since w.heap.size w' :=
  ⟨h.os, h.tape, h.output, h.size, fun k hk => h.block k hk fun h => h⟩
theorem trodAll_stays {w' : World} {sp' : Nat → Bool} (hl : laidOutB P = true) : ∀ {ts : List TypeId} {vs : List Value} {ds : List (DataW H)} {ps : List MemPlace}, (ts.all fun t => P.readableRec t && decide (t < P.types.size)) = true →
    DataW.TrodAll enc P w 0 (fun _ => true) true ts vs ds ps → (∀ p ∈ ps, w.sameAt w' p) → (∀ p ∈ ps, sp' p.block = true) → DataW.TrodAll enc P w' 0 sp' true ts vs ds ps
  | [], [], [], _, _, h, _, _ => h
  | [], [], _ :: _, _, _, h, _, _ => h.elim
  | [], _ :: _, _, _, _, h, _, _ => h.elim
  | _ :: _, [], _, _, _, h, _, _ => h.elim
  | _ :: _, _ :: _, [], _, _, h, _, _ => h.elim
  | t :: ts, v :: vs, d :: ds, _, ht, ⟨p, q, h1, h2, e⟩, hs, hp => by
    subst e
    rw [List.all_cons, Bool.and_eq_true, Bool.and_eq_true, decide_eq_true_eq] at ht
    exact ⟨p, q, WideElems.Trod_stays hl ht.1.1 ht.1.2 h1 (fun x hx => hs x (List.mem_append_left _ hx)) (fun x hx => hp x (List.mem_append_left _ hx)),
      trodAll_stays hl ht.2 h2 (fun x hx => hs x (List.mem_append_right _ hx)) (fun x hx => hp x (List.mem_append_right _ hx)), rfl⟩
theorem law_post {f : Func} {s : ChangeSpec} {apart fresh handsOn : Bool} {W W' : World} {args : Array Value} {ds : List (DataW H)} {before : List MemPlace} {t : TypeId} (hv : s.vars = [])
    (hW : DataW.Whole enc P f.params.toList [] apart W args.toList ds [] before) (hs : Keeps (fun _ => False) W W') (e : s.fn H (ds ++ []) = { results := [.lit (.bool true)], args := ds })
    (hr : f.resultTypes = #[t]) (ht : P.underlying t = some .bool) (hl : laidOutB P = true) (hrec : (f.params.toList.all fun t => P.readableRec t && decide (t < P.types.size)) = true) :
    s.post enc P f apart fresh handsOn false W args (.bool true) W' := by
  have hlt := hW.lt
  have hW2 := hW
  obtain ⟨p, q, hA, hV, hpq, _, _⟩ := hW2
  have hlt' : ∀ x ∈ p, x.block < W.heap.size := fun x hx => hlt x (by rw [hpq]; exact List.mem_append_left _ hx)
  refine ⟨ds, [], before, [], p, [], by rw [hv]; exact hW, ?_, ?_, ?_, (Keeps.since hs).frame _, fun h => by cases h⟩
  · rw [e, hr]
    exact trodAll_mk1 (shut_bool ht _)
  · rw [e]
    exact trodAll_stays hl hrec hA (fun x hx => (Keeps.since hs).sameAt (hlt' x hx)) (fun x hx => by simpa using hlt' x hx)
  · rw [e, hv]
    rfl
end
end Go.Pv

namespace Go.Pv
open Go Go.ChangeShapes Go.WideShapes Go.ChangeAt Go.RowKit
section
variable {H : Type} {enc : TypeId × Value → H} {P : Program} {w : World} {sp : Nat → Bool} {held : Bool}
end
end Go.Pv
namespace Go.Pv.Try
open Go Go.Proofs Go.Pv Go.ChangeShapes Go.WideShapes Go.ChangeAt Go.RowKit
theorem own : ownKnob Try.prog.godebug = none := by kernel_rfl
theorem laidOut : laidOutB Try.prog = true := by kernel_rfl
theorem globs (W : World) : GlobTop G W := fun g x h => by cases h
end Go.Pv.Try

namespace Go.Pv.Try
open Go Go.Proofs Go.Pv Go.ChangeShapes Go.WideShapes Go.ChangeAt Go.RowKit Go.Proofs.Ytfdnbokgakjplaa
set_option maxRecDepth 100000 in
theorem limits_lifted (os : Os) (started : os.Started) (H : Type) (enc : TypeId × Value → H) :
    ReturnsInHanded {} Try.checked os 3 .any (Rows.postLimitsSpec.pre6 enc Try.prog Try.f3 [] false) (Rows.postLimitsSpec.post enc Try.prog Try.f3 false true false false) := by
  refine returnsInHanded_of_change (C := Try.checked) own started (by kernel_rfl) Try.func3
    (ChangeSpec.witness6 (enc := enc) (C := Try.checked) false ⟨#[], #[.bool false, .int .u16 0], []⟩ 8 (by kernel_rfl) (by kernel_rfl) (by kernel_rfl) (by kernel_rfl)) ?_
  intro W base args ds gs before hval0 hW _ _
  have hval : ∀ (j : Nat) t v, Try.f3.params[j]? = some t → args[j]? = some v → Value.okWide Try.prog W .any base t v := hval0
  have hW' := hW
  obtain ⟨p, q, hA0, hV, rfl, hfz, hnd⟩ := hW
  have hA : DataW.TrodAll enc Try.prog W 0 (fun _ => true) true Try.f3.params.toList args.toList ds p := hA0
  obtain ⟨rfl, rfl⟩ := trodVars_none hV
  rw [Try.params3] at hA hval
  obtain ⟨v0, vs0, d0, ds0, p0, q0, ha, rfl, rfl, t0, hA⟩ := trodAll_cons hA
  obtain ⟨v1, vs1, d1, ds1, p1, q1, rfl, rfl, rfl, t1, hA⟩ := trodAll_cons hA
  obtain ⟨rfl, rfl, rfl⟩ := trodAll_nil hA
  have hargs : args = #[v0, v1] := Array.toList_inj.1 ha
  subst hargs
  obtain ⟨x0, r0⟩ := rep_arg_bool Try.underlying4 (hval 0 4 v0 rfl rfl)
  obtain ⟨x1, r1, b1⟩ := rep_arg_intR Try.underlying22 (hval 1 22 v1 rfl rfl)
  have hw := calls_of_pure (args := [.bool x0, .int .u16 x1]) (vs := [v0, v1]) (m_cocketlaw09_PostLimits_ok x0 x1 true (PostLimits_law x0 x1 b1.1 b1.2)) rfl (fun i hi => by
    match i, hi with
    | 0, _ => exact r0
    | 1, _ => exact r1) (globs W)
  refine hw.mono fun e W' ⟨he, hs⟩ => ?_
  subst he
  exact ⟨_, rfl, law_post rfl hW' hs rfl (t := 4) (by rfl) Try.underlying4 laidOut (by kernel_rfl)⟩
theorem limits_said : Rows.PostLimitsSaid :=
  OpenClaim.holds_of_wide 3 Try.f3 rfl rfl rfl rfl rfl rfl rfl ⟨rfl, rfl, rfl, rfl, rfl⟩ rfl rfl rfl rfl rfl (by kernel_rfl) Try.func3 (by kernel_rfl)
    (of_decide_eq_true (by kernel_rfl)) (by unfold Func.isWrapper; first | (rw [if_pos (by decide +kernel)]; kernel_rfl) | (rw [if_neg (by decide +kernel)]; exact ⟨rfl, rfl⟩))
    (fun os started H enc _ => limits_lifted os started H enc)
end Go.Pv.Try

namespace Go.Proofs.Ytfdnbokgakjplaa

theorem limits_said : Rows.PostLimitsSaid := Go.Pv.Try.limits_said

#print axioms limits_said

end Go.Proofs.Ytfdnbokgakjplaa
